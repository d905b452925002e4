import PyProof.Rows.All
import Wide.All
import Open.Line
import KE.KDictOf
import PyProof.Rows.CatchBare
import PyProof.Rows.TopCatch
import PySem.Challenge.RW_uf040035_07
set_option Elab.async false
section
open PySem PySem.W PyProof.Rows
set_option maxRecDepth 100000
set_option maxHeartbeats 0
noncomputable def Qh.seg:List Nat->List Stmt->List Stmt
|[],_=>[]
|n::ns,l=>(l.drop 1).take n++Qh.seg ns (l.drop (n+1))
noncomputable def Qh.vw:Program:={PySem.Challenge.rw_uf040035_07.row.prog with main:={PySem.Challenge.rw_uf040035_07.row.prog.main with body:=Qh.seg [5,4,9,7,26] PySem.Challenge.rw_uf040035_07.row.prog.main.body}}
theorem Qh.Q4:LeftO PySem.Challenge.rw_uf040035_07.row.prog Qh.vw [] (λs=>xlAt Qh.vw [] s&&recOk [] s) (Hook.obs Hook.none) (Hook.val Hook.none) 5522:=λw=>by kernel_rfl
theorem Qh.Q5{d:DefRec}{kwd:List (PySem.Str×PySem.Expr)}(hdef:defOf Qh.vw PySem.Challenge.rw_uf040035_07.row.name=some (d,kwd))(hp:PySem.Challenge.rw_uf040035_07.row.prog.theDef PySem.Challenge.rw_uf040035_07.row.name=some (d.params,d.body,d.scope))(hk:kwWritten? d.params.kwonlyargs d.params.kw_defaults=some kwd)(hc:WalkO Qh.vw [] (XL Qh.vw []) (Hook.says Hook.none) PySem.Challenge.rw_uf040035_07.row.toRowW d kwd λf vs=>PySem.call f vs):PySem.Challenge.rw_uf040035_07.Holds:=by
 w_on
 refine holds_law (by decide+kernel) λsaid=>holds_open (XP:=XL Qh.vw []) (YP:=Hook.says Hook.none) Qh.Q4 (Hook.of Hook.none) (Hook.keeps Hook.none) (λs e=>xl_of s (Bool.and_eq_true_iff.mp e).1) XL.keeps hdef hp hk (λs e=>recFacts_of (Bool.and_eq_true_iff.mp e).2) (by rfl) said (by decide+kernel) ⟨rfl,rfl,rfl,rfl,rfl,by decide+kernel⟩ ?hw hc
 (case hw=>w_witness2)
end
set_option autoImplicit true
set_option linter.unusedVariables false
set_option linter.unusedSimpArgs false
set_option linter.unusedSectionVars false
set_option bootstrap.genMatcherCode false
set_option genInjectivity false
set_option genSizeOf false
set_option tactic.hygienic false
noncomputable section
set_option compiler.extract_closed false in
local macro_rules (kind:=«term#[_,]»)
|s=>λ_ t=>.ok (.node .none `Lean.Parser.Term.anonymousCtor (.mk [.atom .none "⟨",s.getArg 1,.atom .none "⟩"])) t
set_option compiler.extract_closed false in
local macro_rules (kind:=Lean.Parser.Term.omission)
|s=>λ_ t=>.ok (.node .none `Lean.Parser.Term.byTactic (.mk [.atom .none "by",.node .none `Lean.Parser.Tactic.tacticSeq (.mk [.node .none `Lean.Parser.Tactic.tacticSeq1Indented (.mk [.node .none `null (.mk [.node .none `Lean.Parser.Tactic.tacticRfl' (.mk [.atom .none "rfl'"])])])])])) t
set_option compiler.extract_closed false in
local macro_rules (kind:=Lean.Parser.Term.tuple)
|s=>λ_ t=>bif (s.getArg 1).matchesNull 0 then .ok (.node .none `«term‹_›» (.mk [.atom .none "‹",.node .none `Lean.Parser.Term.hole (.mk [.atom .none "_"]),.atom .none "›"])) t else .error .unsupportedSyntax t
set_option compiler.extract_closed false in
local macro_rules |`(∅)=>`(by first|exact Nat.le_of_ble_eq_true rfl|decide)|`(~~~$x)=>`(by exact $x)
set_option compiler.extract_closed false in
local macro_rules (kind:=Lean.Parser.Command.declaration)
|s=>λ_ t=>let m:=s.getArg 0;let i:=s.getArg 1;let k:=i.getArg 0;let c:=m.setArg 4 (.node .none `null (.mk [.atom .none "noncomputable"]));bif k.isToken "def"&&(m.getArg 4).matchesNull 0 then .ok (bif (m.getArg 1).matchesNull 0&&!((i.getArg 2).getArg 1).matchesNull 0 then s.setArg 1 (.node .none `Lean.Parser.Command.theorem (.mk [.atom .none "theorem",i.getArg 1,.node .none `Lean.Parser.Command.declSig (.mk [(i.getArg 2).getArg 0,((i.getArg 2).getArg 1).getArg 0]),i.getArg 3])) else s.setArg 0 c) t else bif k.isToken "abbrev" then .ok ((s.setArg 0 c).setArg 1 (.node .none `Lean.Parser.Command.definition (.mk [.atom .none "def",i.getArg 1,i.getArg 2,i.getArg 3,.node .none `null (.mk [])]))) t else .error .unsupportedSyntax t
namespace Qh
@[reducible]def bN:=PySem.Value->PySem.Shared->Prop
@[reducible]def au:=PySem.Expr
def aU(n:Nat):n<=n:=Nat.le_refl n
def bk(n:Int):n<=n:=Int.le_refl n
def bZ{a b c:Nat}(h:a<=b)(k:b<=c):a<=c:=Nat.le_trans h k
def di{a b c:Int}(h:a<=b)(k:b<=c):a<=c:=Int.le_trans h k
def cE{a b:Nat}(h:a.succ<=b.succ):a<=b:=Nat.le_of_succ_le_succ h
def bG{a b:Nat}(h:a.succ<=b):a<=b:=Nat.le_of_succ_le h
def kF{a b:Nat}(h:a<=b):a<=b.succ:=Nat.le_succ_of_le h
def dz{a b c:Nat}(h:a+b<=c):b<=c:=Nat.le_of_add_left_le h
def iQ{a b c:Nat}(h:a+b<=c):a<=c:=Nat.le_of_add_right_le h
def cm{a b:Nat}(h:a<=b)(k:b<=a):a=b:=Nat.le_antisymm h k
def ee(a b:Nat):a<=b+a:=Nat.le_add_left a b
def eG(a b:Nat):a<=a+b:=Nat.le_add_right a b
def gp(a:Nat):0<=a:=Nat.zero_le a
def e9(a b:Nat):a<=max a b:=Nat.le_max_left a b
def fL(a b:Nat):b<=max a b:=Nat.le_max_right a b
def gg(n:Nat):LE.le (α:=Int) 0 n:=Int.natCast_nonneg n
def cU:¬ false=true:=Bool.false_ne_true
def bB{P:Prop}(h:∀X:Prop,(P->X)->X):P:=h P id
def aX{a b:Prop}{X:Prop}(h:a/\b)(k:a->b->X):X:=k h.1 h.2
def g8{a b c:Prop}{X:Prop}(h:a/\b/\c)(k:a->b->c->X):X:=k h.1 h.2.1 h.2.2
def jL{a b c d:Prop}{X:Prop}(h:a/\b/\c/\d)(k:a->b->c->d->X):X:=k h.1 h.2.1 h.2.2.1 h.2.2.2
def G9{a b c d e f g:Prop}{X:Prop}(h:a/\b/\c/\d/\e/\f/\g)(k:a->b->c->d->e->f->g->X):X:=k h.1 h.2.1 h.2.2.1 h.2.2.2.1 h.2.2.2.2.1 h.2.2.2.2.2.1 h.2.2.2.2.2.2
def cb{c:Type}{b:c->Prop}{X:Prop}(h:∃a,b a)(k:∀a,b a->X):X:=h.elim λa h=>k a h
def aQ{d:Type}{b c:d->Prop}{X:Prop}(h:∃a,b a/\c a)(k:∀a,b a->c a->X):X:=h.elim λa h=>k a h.1 h.2
def ct{e:Type}{b c d:e->Prop}{X:Prop}(h:∃a,b a/\c a/\d a)(k:∀a,b a->c a->d a->X):X:=h.elim λa h=>k a h.1 h.2.1 h.2.2
def oE{f:Type}{b c d e:f->Prop}{X:Prop}(h:∃a,b a/\c a/\d a/\e a)(k:∀a,b a->c a->d a->e a->X):X:=h.elim λa h=>k a h.1 h.2.1 h.2.2.1 h.2.2.2
def qe{g:Type}{b c d e f:g->Prop}{X:Prop}(h:∃a,b a/\c a/\d a/\e a/\f a)(k:∀a,b a->c a->d a->e a->f a->X):X:=h.elim λa h=>k a h.1 h.2.1 h.2.2.1 h.2.2.2.1 h.2.2.2.2
def fD{d e:Type}{c:d->e->Prop}{X:Prop}(h:∃a b,c a b)(k:∀a b,c a b->X):X:=h.elim λa h=>h.elim λb h=>k a b h
def bl{e f:Type}{c d:e->f->Prop}{X:Prop}(h:∃a b,c a b/\d a b)(k:∀a b,c a b->d a b->X):X:=h.elim λa h=>h.elim λb h=>k a b h.1 h.2
def dk{f g:Type}{c d e:f->g->Prop}{X:Prop}(h:∃a b,c a b/\d a b/\e a b)(k:∀a b,c a b->d a b->e a b->X):X:=h.elim λa h=>h.elim λb h=>k a b h.1 h.2.1 h.2.2
def fY{g i:Type}{c d e f:g->i->Prop}{X:Prop}(h:∃a b,c a b/\d a b/\e a b/\f a b)(k:∀a b,c a b->d a b->e a b->f a b->X):X:=h.elim λa h=>h.elim λb h=>k a b h.1 h.2.1 h.2.2.1 h.2.2.2
def ja{i j:Type}{c d e f g:i->j->Prop}{X:Prop}(h:∃a b,c a b/\d a b/\e a b/\f a b/\g a b)(k:∀a b,c a b->d a b->e a b->f a b->g a b->X):X:=h.elim λa h=>h.elim λb h=>k a b h.1 h.2.1 h.2.2.1 h.2.2.2.1 h.2.2.2.2
def tY{j l:Type}{c d e f g i:j->l->Prop}{X:Prop}(h:∃a b,c a b/\d a b/\e a b/\f a b/\g a b/\i a b)(k:∀a b,c a b->d a b->e a b->f a b->g a b->i a b->X):X:=h.elim λa h=>h.elim λb h=>k a b h.1 h.2.1 h.2.2.1 h.2.2.2.1 h.2.2.2.2.1 h.2.2.2.2.2
def Ha{l m:Type}{c d e f g i j:l->m->Prop}{X:Prop}(h:∃a b,c a b/\d a b/\e a b/\f a b/\g a b/\i a b/\j a b)(k:∀a b,c a b->d a b->e a b->f a b->g a b->i a b->j a b->X):X:=h.elim λa h=>h.elim λb h=>k a b h.1 h.2.1 h.2.2.1 h.2.2.2.1 h.2.2.2.2.1 h.2.2.2.2.2.1 h.2.2.2.2.2.2
def Hb{m n:Type}{c d e f g i j l:m->n->Prop}{X:Prop}(h:∃a b,c a b/\d a b/\e a b/\f a b/\g a b/\i a b/\j a b/\l a b)(k:∀a b,c a b->d a b->e a b->f a b->g a b->i a b->j a b->l a b->X):X:=h.elim λa h=>h.elim λb h=>k a b h.1 h.2.1 h.2.2.1 h.2.2.2.1 h.2.2.2.2.1 h.2.2.2.2.2.1 h.2.2.2.2.2.2.1 h.2.2.2.2.2.2.2
def ll{e f g:Type}{d:e->f->g->Prop}{X:Prop}(h:∃a b c,d a b c)(k:∀a b c,d a b c->X):X:=h.elim λa h=>h.elim λb h=>h.elim λc h=>k a b c h
def g9{f g i:Type}{d e:f->g->i->Prop}{X:Prop}(h:∃a b c,d a b c/\e a b c)(k:∀a b c,d a b c->e a b c->X):X:=h.elim λa h=>h.elim λb h=>h.elim λc h=>k a b c h.1 h.2
def gi{g i j:Type}{d e f:g->i->j->Prop}{X:Prop}(h:∃a b c,d a b c/\e a b c/\f a b c)(k:∀a b c,d a b c->e a b c->f a b c->X):X:=h.elim λa h=>h.elim λb h=>h.elim λc h=>k a b c h.1 h.2.1 h.2.2
def Av{j l m:Type}{d e f g i:j->l->m->Prop}{X:Prop}(h:∃a b c,d a b c/\e a b c/\f a b c/\g a b c/\i a b c)(k:∀a b c,d a b c->e a b c->f a b c->g a b c->i a b c->X):X:=h.elim λa h=>h.elim λb h=>h.elim λc h=>k a b c h.1 h.2.1 h.2.2.1 h.2.2.2.1 h.2.2.2.2
def S9{f g i j:Type}{e:f->g->i->j->Prop}{X:Prop}(h:∃a b c d,e a b c d)(k:∀a b c d,e a b c d->X):X:=h.elim λa h=>h.elim λb h=>h.elim λc h=>h.elim λd h=>k a b c d h
def Ta{g i j l m:Type}{f:g->i->j->l->m->Prop}{X:Prop}(h:∃a b c d e,f a b c d e)(k:∀a b c d e,f a b c d e->X):X:=h.elim λa h=>h.elim λb h=>h.elim λc h=>h.elim λd h=>h.elim λe h=>k a b c d e h
def Tb{j l m n o:Type}{f g i:j->l->m->n->o->Prop}{X:Prop}(h:∃a b c d e,f a b c d e/\g a b c d e/\i a b c d e)(k:∀a b c d e,f a b c d e->g a b c d e->i a b c d e->X):X:=h.elim λa h=>h.elim λb h=>h.elim λc h=>h.elim λd h=>h.elim λe h=>k a b c d e h.1 h.2.1 h.2.2
def Tc{l m n o p:Type}{f g i j:l->m->n->o->p->Prop}{X:Prop}(h:∃a b c d e,f a b c d e/\g a b c d e/\i a b c d e/\j a b c d e)(k:∀a b c d e,f a b c d e->g a b c d e->i a b c d e->j a b c d e->X):X:=h.elim λa h=>h.elim λb h=>h.elim λc h=>h.elim λd h=>h.elim λe h=>k a b c d e h.1 h.2.1 h.2.2.1 h.2.2.2
def Hc{m n o p q:Type}{f g i j l:m->n->o->p->q->Prop}{X:Prop}(h:∃a b c d e,f a b c d e/\g a b c d e/\i a b c d e/\j a b c d e/\l a b c d e)(k:∀a b c d e,f a b c d e->g a b c d e->i a b c d e->j a b c d e->l a b c d e->X):X:=h.elim λa h=>h.elim λb h=>h.elim λc h=>h.elim λd h=>h.elim λe h=>k a b c d e h.1 h.2.1 h.2.2.1 h.2.2.2.1 h.2.2.2.2
def Hd{n o p q r:Type}{f g i j l m:n->o->p->q->r->Prop}{X:Prop}(h:∃a b c d e,f a b c d e/\g a b c d e/\i a b c d e/\j a b c d e/\l a b c d e/\m a b c d e)(k:∀a b c d e,f a b c d e->g a b c d e->i a b c d e->j a b c d e->l a b c d e->m a b c d e->X):X:=h.elim λa h=>h.elim λb h=>h.elim λc h=>h.elim λd h=>h.elim λe h=>k a b c d e h.1 h.2.1 h.2.2.1 h.2.2.2.1 h.2.2.2.2.1 h.2.2.2.2.2
def Aw{p q r s t u:Type}{g i j l m n o:p->q->r->s->t->u->Prop}{X:Prop}(h:∃a b c d e f,g a b c d e f/\i a b c d e f/\j a b c d e f/\l a b c d e f/\m a b c d e f/\n a b c d e f/\o a b c d e f)(k:∀a b c d e f,g a b c d e f->i a b c d e f->j a b c d e f->l a b c d e f->m a b c d e f->n a b c d e f->o a b c d e f->X):X:=h.elim λa h=>h.elim λb h=>h.elim λc h=>h.elim λd h=>h.elim λe h=>h.elim λf h=>k a b c d e f h.1 h.2.1 h.2.2.1 h.2.2.2.1 h.2.2.2.2.1 h.2.2.2.2.2.1 h.2.2.2.2.2.2
end Qh
namespace Qh
set_option genCtorIdx false in
inductive Lx where
|v' (i:Nat)|c' (n:Nat)|a' (x y:Lx)|m' (k:Nat) (y:Lx)|n' (y:Lx) (k:Nat)|s' (x y:Lx)|x' (x y:Lx)
abbrev pe:List Int->List Int->Int
|k::p,x::r=>k*x+pe p r
|_,_=>0
abbrev pad:List Int->List Int->List Int
|k::p,l::q=>(k+l)::pad p q
|[],q=>q
|p,[]=>p
abbrev gs(k:Int):List Int->List Int
|[]=>[]
|l::p=>(k*l)::gs k p
abbrev pv:Nat->List Int
|0=>[1]
|n+1=>0::pv n
abbrev pat:List Int->Nat->Int
|[],_=>0
|x::_,0=>x
|_::r,n+1=>pat r n
abbrev nat:List Nat->Nat->Nat
|[],_=>0
|x::_,0=>x
|_::r,n+1=>nat r n
abbrev Lx.d(f:Bool)(J:List Int):Lx->Int
|.v' i=>pat J i
|.c' n=>Int.ofNat n
|.a' x y=>x.d f J+y.d f J
|.m' k y=>Int.ofNat k*y.d f J
|.n' y k=>y.d f J*Int.ofNat k
|.s' x y=>cond f (Int.ofNat (x.d f J-y.d f J).toNat) (x.d f J-y.d f J)
|.x' x y=>max (x.d f J) (y.d f J)
abbrev Lx.e(J:List Nat):Lx->Nat
|.v' i=>nat J i
|.c' n=>n
|.a' x y=>x.e J+y.e J
|.m' k y=>k*y.e J
|.n' y k=>y.e J*k
|.s' x y=>x.e J-y.e J
|.x' x y=>max (x.e J) (y.e J)
abbrev lk(f:Bool):Lx->List (List Int)->Nat->(List Int->List (List Int)->Nat->Bool)->Bool
|.v' i=>λst j k=>k (0::pv i) st j
|.c' n=>λst j k=>k [Int.ofNat n] st j
|.a' x y=>λst j k=>lk f x st j λp st j=>lk f y st j λq st j=>k (pad p q) st j
|.m' n y=>λst j k=>lk f y st j λp st j=>k (gs (Int.ofNat n) p) st j
|.n' y n=>λst j k=>lk f y st j λp st j=>k (gs (Int.ofNat n) p) st j
|.s' x y=>λst j k=>lk f x st j λp st j=>lk f y st j λq st j=>
   cond f (k (pad p (gs (-1) q)) (pad p (gs (-1) q)::st) (2*j+1)&&k [] (pad q (gs (-1) p)::st) (2*j+2)) (k (pad p (gs (-1) q)) st j)
|.x' x y=>λst j k=>lk f x st j λp st j=>lk f y st j λq st j=>
   k p (pad p (gs (-1) q)::st) (2*j+1)&&k q (pad q (gs (-1) p)::st) (2*j+2)
abbrev hk(f:Bool):List (Bool×Lx×Lx)->List (List Int)->Nat->(List (List Int)->Nat->Bool)->Bool
|[]=>λst j k=>k st j
|(b,l,r)::t=>λst j k=>lk f l st j λp st j=>lk f r st j λq st j=>
   hk f t (cond b (pad p (gs (-1) q)::pad q (gs (-1) p)::st) (pad q (gs (-1) p)::st)) j k
abbrev comb:List Nat->List (List Int)->List Int
|c::r,p::st=>pad (gs (Int.ofNat c) p) (comb r st)
|_,_=>[]
abbrev low(f:Bool):List Int->Bool
|[]=>true
|k::p=>cond f (decide (k<=0)) (decide (k=0))&&low f p
abbrev Ib(f:Bool):List Int->Bool
|k::p=>decide (k<0)&&low f p
|[]=>false
abbrev Ic:List (List Nat)->Nat->List Nat
|[],_=>[]
|x::_,0=>x
|_::r,n+1=>Ic r n
abbrev ck(f:Bool)(P:List (Bool×Lx×Lx)×Lx×Lx×List (List Nat)):Bool:=
 hk f P.1 [] 0 λst j=>lk f P.2.1 st j λp st j=>lk f P.2.2.1 st j λq st j=>
  Ib f (comb (Ic P.2.2.2 j) (pad (pad p (gs (-1) q)) [-1]::st))
abbrev Hy(R:Bool->Lx->Lx->Prop):List (Bool×Lx×Lx)->Prop->Prop
|[],G=>G
|(b,l,r)::t,G=>R b l r->Hy R t G
def tQ:∀p q r:List Int,pe (pad p q) r=pe p r+pe q r
|[]=>λq r=>(Int.zero_add _).symm
|k::p=>λq r=>by
  cases q with
  |nil=>exact(Int.add_zero _).symm
  |cons l q=>cases r with
   |nil=>rfl
   |cons x r=>exact(congrArg (·+_) (Int.add_mul k l x)).trans ((congrArg (_+·) (tQ p q r)).trans ((Int.add_assoc _ _ _).trans ((congrArg (_+·) (Int.add_left_comm _ _ _)).trans (Int.add_assoc _ _ _).symm)))
def tZ(k:Int):∀p r:List Int,pe (gs k p) r=k*pe p r
|[]=>λr=>(Int.mul_zero _).symm
|l::p=>λr=>by
  cases r with
  |nil=>exact(Int.mul_zero _).symm
  |cons x r=>exact(congrArg (_+·) (tZ k p r)).trans ((congrArg (·+_) (Int.mul_assoc k l x)).trans (Int.mul_add _ _ _).symm)
def wQ{p q r:List Int}{a b:Int}(c:pe p r=a)(d:pe q r=b):pe (pad p (gs (-1) q)) r=a-b:=by rw[tQ,tZ,c,d,Int.neg_one_mul];rfl
def Ie:∀(i:Nat)(r:List Int),pe (pv i) r=pat r i
|0=>λr=>by cases r with|nil=>rfl|cons x r=>exact(Int.add_zero _).trans (Int.one_mul x)
|n+1=>λr=>by cases r with|nil=>rfl|cons x r=>exact(congrArg (·+_) (Int.zero_mul x)).trans ((Int.zero_add _).trans (Ie n r))
section
variable{f:Bool}{J:List Int}{C:Prop}
abbrev Al(J:List Int):List (List Int)->Prop
|[]=>True
|p::st=>0<=pe p (1::J)/\Al J st
def Al.sub{st:List (List Int)}{p q:List Int}{a b:Int}(c:pe p (1::J)=a)(d:pe q (1::J)=b)(h:b<=a)(e:Al J st):Al J (pad p (gs (-1) q)::st):=#[wQ c d▸Int.sub_nonneg_of_le h,e]
def iG:∀(e:Lx){st:List (List Int)}{j:Nat}{k:List Int->List (List Int)->Nat->Bool},lk f e st j k=true->Al J st->
  (∀p st j,k p st j=true->pe p (1::J)=e.d f J->Al J st->C)->C
|.v' i=>λh a K=>K _ _ _ h (Ie (i+1) _) a
|.c' n=>λh a K=>K _ _ _ h ((Int.add_zero _).trans (Int.mul_one _)) a
|.a' x y=>λh a K=>iG x h a λp st j h b a=>iG y h a λq st j h g a=>K _ _ _ h ((tQ p q _).trans ((congrArg (·+_) b).trans (congrArg (_+·) g))) a
|.m' n y=>λh a K=>iG y h a λp st j h b a=>K _ _ _ h ((tZ _ p _).trans (congrArg (_ * ·) b)) a
|.n' y n=>λh a K=>iG y h a λp st j h b a=>K _ _ _ h ((tZ _ p _).trans ((congrArg (_ * ·) b).trans (Int.mul_comm _ _))) a
|.s' x y=>λh a K=>iG x h a λp st j h b a=>iG y h a λq st j h g a=>by
  cases f with
  |false=>exact K _ _ _ h (wQ b g) a
  |true=>exact(Int.le_total (y.d true J) (x.d true J)).elim (λc=>K _ _ _ (Bool.and_eq_true_iff.mp h).1 ((wQ b g).trans (Int.toNat_of_nonneg (Int.sub_nonneg_of_le c)).symm) (.sub b g c a)) (λc=>K _ _ _ (Bool.and_eq_true_iff.mp h).2 (congrArg Int.ofNat (Int.toNat_of_nonpos (Int.sub_nonpos_of_le c)).symm) (.sub g b c a))
|.x' x y=>λh a K=>iG x h a λp st j h b a=>iG y h a λq st j h g a=>
  (Int.le_total (y.d f J) (x.d f J)).elim (λc=>K _ _ _ (Bool.and_eq_true_iff.mp h).1 (b.trans (Int.max_eq_left c).symm) (.sub b g c a)) (λc=>K _ _ _ (Bool.and_eq_true_iff.mp h).2 (g.trans (Int.max_eq_right c).symm) (.sub g b c a))
def E7:∀(c:List Nat)(st:List (List Int)),Al J st->0<=pe (comb c st) (1::J)
|[]=>λ_ _=>bk _
|c::r=>λst a=>by
  cases st with
  |nil=>exact bk _
  |cons p st=>exact tQ _ _ _▸tZ _ p _▸Int.add_nonneg (Int.mul_nonneg (gg c) a.1) (E7 r st a.2)
abbrev Nn(f:Bool):List Int->Prop
|[]=>True
|x::r=>(f=true->0<=x)/\Nn f r
def Gm:∀(p r:List Int),Nn f r->low f p=true->pe p r<=0
|[]=>λ_ _ _=>bk _
|k::p=>λr a h=>by
  cases r with
  |nil=>exact bk _
  |cons x r=>
   refine Int.add_nonpos ?_ (Gm p r a.2 (Bool.and_eq_true_iff.mp h).2);cases f with
   |true=>exact Int.mul_nonpos_of_nonpos_of_nonneg (of_decide_eq_true (Bool.and_eq_true_iff.mp h).1) (a.1 rfl)
   |false=>exact Int.le_of_eq (of_decide_eq_true (Bool.and_eq_true_iff.mp h).1▸Int.zero_mul x)
def OI(a:Nn f J):∀{p:List Int},Ib f p=true->pe p (1::J)<0
|[]=>λh=>Bool.noConfusion h
|k::p=>λh=>Int.add_neg_of_neg_of_nonpos ((Int.mul_one k).symm▸of_decide_eq_true (Bool.and_eq_true_iff.mp h).1) (Gm p J a (Bool.and_eq_true_iff.mp h).2)
def Ax{R:Bool->Lx->Lx->Prop}{G:Prop}(c:∀b l r,R b l r->cond b (l.d f J=r.d f J) (l.d f J<=r.d f J)):∀(i:List (Bool×Lx×Lx)){st:List (List Int)}{j:Nat}{k:List (List Int)->Nat->Bool},hk f i st j k=true->Al J st->
  (∀st j,k st j=true->Al J st->G)->Hy R i G
|[]=>λh a K=>K _ _ h a
|(true,l,r)::t=>λh a K q=>iG l h a λp st j h e a=>iG r h a λm st j h g a=>Ax c t h (.sub e g (Int.le_of_eq (c _ _ _ q:l.d f J=r.d f J).symm) (.sub g e (Int.le_of_eq (c _ _ _ q:l.d f J=r.d f J)) a)) K
|(false,l,r)::t=>λh a K q=>iG l h a λp st j h e a=>iG r h a λm st j h g a=>Ax c t h (.sub g e (c _ _ _ q:l.d f J<=r.d f J) a) K
def He{R:Bool->Lx->Lx->Prop}(c:Nn f J)(e:∀b l r,R b l r->cond b (l.d f J=r.d f J) (l.d f J<=r.d f J))(P:List (Bool×Lx×Lx)×Lx×Lx×List (List Nat))(h:ck f P=true):
  Hy R P.1 (P.2.1.d f J<=P.2.2.1.d f J):=
 Ax e P.1 h trivial λst j h a=>iG P.2.1 h a λp st j h g a=>iG P.2.2.1 h a λq st j h i a=>Int.not_lt.mp λk=>
  Int.not_le.mpr (OI c h) (E7 _ (_::_) #[(tQ (pad p (gs (-1) q)) [-1] (1::J)).symm▸wQ g i▸Int.sub_nonneg_of_le (Int.add_one_le_of_lt (Int.sub_pos_of_lt k)),a])
end
def E8:∀(J:List Nat)(i:Nat),pat (J.map Int.ofNat) i=Int.ofNat (nat J i)
|[]=>λ_=>rfl
|x::r=>λi=>by cases i with|zero=>rfl|succ n=>exact E8 r n
def e_d(J:List Nat):∀e:Lx,e.d true (J.map Int.ofNat)=Int.ofNat (e.e J)
|.v' i=>E8 J i
|.c' n=>rfl
|.a' x y=>(congrArg (·+_) (e_d J x)).trans (congrArg (_+·) (e_d J y))
|.m' k y=>congrArg (_ * ·) (e_d J y)
|.n' y k=>congrArg (· * _) (e_d J y)
|.s' x y=>(congrArg (λa=>Int.ofNat (a-y.d true (J.map Int.ofNat)).toNat) (e_d J x)).trans ((congrArg (λa=>Int.ofNat (Int.ofNat (x.e J)-a).toNat) (e_d J y)).trans (congrArg Int.ofNat (Int.toNat_sub (x.e J) (y.e J))))
|.x' x y=>(congrArg (max · _) (e_d J x)).trans ((congrArg (max _ ·) (e_d J y)).trans ((Nat.le_total (y.e J) (x.e J)).elim (λh=>(Int.max_eq_left (Int.ofNat_le.mpr h)).trans (congrArg Int.ofNat (Nat.max_eq_left h).symm)) λh=>(Int.max_eq_right (Int.ofNat_le.mpr h)).trans (congrArg Int.ofNat (Nat.max_eq_right h).symm)))
def Gn:∀J:List Nat,Nn true (J.map Int.ofNat)
|[]=>trivial
|x::r=>#[λ_=>gg x,Gn r]
def Ig:∀J:List Int,Nn false J
|[]=>trivial
|x::r=>#[λh=>Bool.noConfusion h,Ig r]
abbrev dK:Nat->Nat->List Lx->List (Bool×Lx×Lx)->List (List Nat)->List (Bool×Lx×Lx)×Lx×Lx×List (List Nat)
|0=>λ_ st a cs=>(a,.c' 0,.c' 0,cs)
|k+1=>λn st a cs=>
  bif n % 64==0 then match st with|r::l::_=>(a,l,r,cs)|_=>(a,.c' 0,.c' 0,cs)
  else bif Nat.ble 32 (n % 64) then dK k (n/64) (.c' (n % 64-32)::st) a cs
  else bif Nat.ble 12 (n % 64) then dK k (n/64) (.v' (n % 64-12)::st) a cs
  else bif n % 64==8 then dK k (n/64) st a ([]::cs)
  else bif n % 64==9 then match cs with|c::cs=>dK k (n/64/64) st a ((n/64 % 64::c)::cs)|_=>(a,.c' 0,.c' 0,cs)
  else match st with
   |.c' y::x::t=>bif n % 64==7 then dK k (n/64/64) (.c' (y*64+n/64 % 64)::x::t) a cs
    else bif n % 64==1 then dK k (n/64) (.a' x (.c' y)::t) a cs else bif n % 64==2 then dK k (n/64) (.s' x (.c' y)::t) a cs else bif n % 64==3 then dK k (n/64) (.x' x (.c' y)::t) a cs
    else bif n % 64==4 then dK k (n/64) (.n' x y::t) a cs else bif n % 64==5 then dK k (n/64) t ((false,x,.c' y)::a) cs else dK k (n/64) t ((true,x,.c' y)::a) cs
   |y::x::t=>bif n % 64==1 then dK k (n/64) (.a' x y::t) a cs else bif n % 64==2 then dK k (n/64) (.s' x y::t) a cs else bif n % 64==3 then dK k (n/64) (.x' x y::t) a cs
    else bif n % 64==4 then(match x with|.c' q=>dK k (n/64) (.m' q y::t) a cs|_=>(a,.c' 0,.c' 0,cs)) else bif n % 64==5 then dK k (n/64) t ((false,x,y)::a) cs else dK k (n/64) t ((true,x,y)::a) cs
   |.c' y::[]=>dK k (n/64/64) [.c' (y*64+n/64 % 64)] a cs
   |_=>(a,.c' 0,.c' 0,cs)
def lI(n:Nat)(J:List Int)(h:ck false (dK 300 n [] [] [])=true):Hy (λb l r=>cond b (l.d false J=r.d false J) (l.d false J<=r.d false J)) (dK 300 n [] [] []).1 ((dK 300 n [] [] []).2.1.d false J<=(dK 300 n [] [] []).2.2.1.d false J):=
 He (Ig J) (λ_ _ _ h=>h) _ h
def lN(n:Nat)(J:List Nat)(h:ck true (dK 300 n [] [] [])=true):Hy (λb l r=>cond b (l.e J=r.e J) (l.e J<=r.e J)) (dK 300 n [] [] []).1 ((dK 300 n [] [] []).2.1.e J<=(dK 300 n [] [] []).2.2.1.e J):=
 (propext Int.ofNat_le:(Int.ofNat _<=Int.ofNat _)=_)▸e_d J (dK 300 n [] [] []).2.1▸e_d J (dK 300 n [] [] []).2.2.1▸He (R:=λb l r=>cond b (l.e J=r.e J) (l.e J<=r.e J)) (Gn J) (λb l r q=>(e_d J l).symm▸(e_d J r).symm▸by cases b with|true=>exact congrArg Int.ofNat q|false=>exact Int.ofNat_le.mpr q) _ h
def bw{a:Int}(n:Nat)(h:ck false (dK 300 n [] [] [])=true):type_of% (lI n [a] h):=lI n [a] h
def cS{a b:Int}(n:Nat)(h:ck false (dK 300 n [] [] [])=true):type_of% (lI n [a,b] h):=lI n [a,b] h
def cD{a b c:Int}(n:Nat)(h:ck false (dK 300 n [] [] [])=true):type_of% (lI n [a,b,c] h):=lI n [a,b,c] h
def kH{a b c d:Int}(n:Nat)(h:ck false (dK 300 n [] [] [])=true):type_of% (lI n [a,b,c,d] h):=lI n [a,b,c,d] h
def qF{a b c d e:Int}(n:Nat)(h:ck false (dK 300 n [] [] [])=true):type_of% (lI n [a,b,c,d,e] h):=lI n [a,b,c,d,e] h
def jW{a b c d e f:Int}(n:Nat)(h:ck false (dK 300 n [] [] [])=true):type_of% (lI n [a,b,c,d,e,f] h):=lI n [a,b,c,d,e,f] h
def oZ{a b c d e f g:Int}(n:Nat)(h:ck false (dK 300 n [] [] [])=true):type_of% (lI n [a,b,c,d,e,f,g] h):=lI n [a,b,c,d,e,f,g] h
def U3{a b c d e f g i:Int}(n:Nat)(h:ck false (dK 300 n [] [] [])=true):type_of% (lI n [a,b,c,d,e,f,g,i] h):=lI n [a,b,c,d,e,f,g,i] h
def a7{a:Nat}(n:Nat)(h:ck true (dK 300 n [] [] [])=true):type_of% (lN n [a] h):=lN n [a] h
def aM{a b:Nat}(n:Nat)(h:ck true (dK 300 n [] [] [])=true):type_of% (lN n [a,b] h):=lN n [a,b] h
def bD{a b c:Nat}(n:Nat)(h:ck true (dK 300 n [] [] [])=true):type_of% (lN n [a,b,c] h):=lN n [a,b,c] h
def ej{a b c d:Nat}(n:Nat)(h:ck true (dK 300 n [] [] [])=true):type_of% (lN n [a,b,c,d] h):=lN n [a,b,c,d] h
def ij{a b c d e:Nat}(n:Nat)(h:ck true (dK 300 n [] [] [])=true):type_of% (lN n [a,b,c,d,e] h):=lN n [a,b,c,d,e] h
def lL{a b c d e f:Nat}(n:Nat)(h:ck true (dK 300 n [] [] [])=true):type_of% (lN n [a,b,c,d,e,f] h):=lN n [a,b,c,d,e,f] h
def iF:=0x320049049205320
def iW:=0x184284c308049201241248
def iX:=0x18c28cc308049201241248
def jG:=825917182536
def jH:=0x61320049049205320
def jI:=0xa07bc110d8cc049049205a07bc110d8c18cc
def km:=0x34184c04900904920634106138c
def kY:=0x188406132606106210c981248
def mu:=0x341a04323049049205341a84323
def mw:=0x61321049049205320
def mi:=0x34c0492490490492053a014d04432a04e8c5320
def mj:=0x34284c20124024124804900904920534184c
def oc:=0x38134184c04900904920638106134c
def og:=0x4e06134c04904920630106138d
def oh:=82144399944
def oi:=0x34130c0492090490492053a014d04432a04e8c5320
def oj:=0xe04d30124124124814e04184d3c50613cc
def pP:=0x807687e0c049049205a07bc110d8c18cc
def rt:=0x34c04904920630180d
def rv:=0x188288c308049201241248
def rA:=0x34c04904920606130d
def rB:=0x38134c04904904904920540134f14e05044504f44c
def rC:=0x1a0406132806106810ca01248
def rD:=0xd06130804904900900904920124124024124124814d04e30604340f84e
def tx:=0x6134184c04904920534c
def tA:=0x38134c20124124124024124124804904904900900904920538140f1810cd4614050613cc
def tB:=0x30184284c201248049009049205321
def tC:=0x30188288c20124804900904920530188d
def tD:=0x7247d078cc049049205a4c
def tE:=0xc80124124024124814d80606134c
def tF:=0x32004904904900904920536018184d38530e
def tG:=0xd04c80124124024124817e306007247d078cd
def tH:=0x38134c0490490490492054013cd14f80538140c
def tI:=0xe04d30804904900900904920124124024124124814e04f30604340d84f
def vX:=0x34c04904920534c
def vY:=0xd30124124124814e30534e
def vZ:=0x34184c04904920534184c
def v3:=336520908116552
def v7:=0x301860049049205321
def v9:=0x10cd3210610cd308208049201241248049049201248
def wa:=0x184334c04334c848208049201241248049049201248
def wb:=0x301860049049205301860
def wc:=0xa07bc110d8c184c049049205a07bc110d8c18cc
def wd:=0x330d308049049201248
def we:=0x184184c061301248
def wg:=0xc80124124024124814d80606106134c
def wh:=0x34c04904920606106130d
def wi:=0x61061321049049205320
def wj:=0x3413013210492090490492053a014d04432a04e8c5320
def wk:=0x133e04284cf88049201248
def wm:=0x10334c8a1201240242248049089089205321
def wo:=0x40cd32210c888049201242248
def wq:=0x40cc36210c888049089201248
def wt:=0x404334c86206210334c888208049201242248049089201248
def wu:=0xc0630a330804920124024124124814d84530188d
def wx:=0xc8c124124124814d84530188d
def wz:=0xe04d30124124124814f3453813cc
def wA:=0x4c860049049205320
def wB:=427436775838280
def zm:=0x34c04904920534184c
def zo:=0x6134c04904920506134c
def zp:=427436429021768
def zq:=0xd30124124124814184d38538184c
def zr:=0x807687e0c049049205a07bc110d8cc
def zt:=0x30184284c20124804900904920530188d
def zu:=0x32004904904900904920536018184184d38530e
def zv:=0xd30124124124818184184c38534e
def zw:=0x334c308049201241248
def zx:=0x3413013220492090490492053a014d04432a04e8c5320
def zy:=0x34288c20124024124804900904920534184c
def zA:=0x34c04904920534138c
def zB:=0xc0630a330820804920124024124024024124804920124024124024124124814c0623460433ce84d
def zC:=0x188d0623080490490492012412412402412481810cf32138506334188e
def zD:=0x38134c20124024124124024124124804900904904900900904920538140f1810cd4614060613cc
def zE:=0xe04d30804904900904904920124124024024124814e04f30604335084f
def zF:=0x188d0623080490490490090492012412412481810cc3e138506334188e
def E9:=0x34c04904920506134184c
def Fa:=0x784184c049049205c8780c
def Fb:=0x34c04900904920634c
def Fc:=0xd30124124024124818e30534e
def Fd:=0x38206134c20820124024024124804920024124024024124804920606138234c
def Fe:=0x8184e34c20820124024124804904904920124124124804900904920606130238d
def Ff:=0xd30124024124124814d38638c
def Fg:=0x1c01c01c01c01c01c01c01c01c01e40613012412412481601da1f834534184c
def Fh:=0xd3012412412481601da1f83053401c91f41e3
def Fi:=0x700700700700700700700700700790184c04904920588184c
def Fj:=0xc80124024124124814d80630d
def Fm:=0x1c01c01c01c01c01c01c01c01c01e40613012412412481641e134534184c
def Fo:=0x63341a040a1323201240241248049009049205063341a44323
def Fp:=0x63341a04323049049205063341a44323
def Fq:=0x61062341a04323049049205063341a44323
def Ft:=0x6710d98c20124124804904920506210284d98c
def Fu:=0x407fcc049049205407fcc
def Fv:=0xf8c049049205f8c
def Fw:=0x104180d32184124124124814c845361
def Fx:=0x6710da0432804920920534c
def Fy:=0x404c8680419c4328841248
def Fz:=0x34130130c0491c90490492053a014d04432a04e8c5320
def FA:=0xe04d30124924124814e04432a04d8c5320
def FC:=0xd04432930124124124814e80534110ca813a3
def Eb:=0xcd320201241241248049009049205360
def Ec:=0xd30124124124814e8053413013a3
def Ed:=0x8cc04904920588184c
def Ee:=0x94c04904920590184c
def Ef:=0x1030ce34c8a1208201240240242248049089009089201240240242248049089009089205321
def Eg:=0x40c338d32210c888208049201242248049201242248
def Eh:=0x40430ce34c8620621030ce34c888208208208208208208208049201242248049201242248049089201248049089089201240242248049201242248049201242248049089089201240242248049089201248
def Ei:=0x61344322049049049089205c078cc14ea879c506234188e
def Ej:=0x1d01fe1c21d41e906106130124124124024124124124124814f04e04d8453a015004f306007a07447707607a1015244504d452
def Ek:=0xe04d30124024124124124124815004f04d8453e014e05044606144c
def El:=0xe04d30124124024124124124815004d04f84538141118185148504f48c
def Em:=0xd06130124124124814d06238538c
def En:=0x34134c04900904920680c
def Eo:=0x1321041321801248
def Ep:=0x81ce1e13012412412481481ce1e104d305360
def Er:=0xd30124124124814e06330506334184e
def Es:=0x30184284c2012480490090492053081e8
def Et:=0x104180d32180124124124814c805360
def Eu:=0x320049049205321
def Ew:=0xc80124124124814d80530d
def Ex:=0x700700700700700700700700700790184c049049205a8184c
def Ey:=0x34180c04904920534184c
def Ez:=0xe04d30124124124814e04f3053c184d
def nb{a b:Nat}(h:Nat.ble a b=true):a<=b:=Nat.le_of_ble_eq_true h
def su{j:Int}{n:Nat}(a:0<=j)(b:j<n):j.toNat<n:=(Int.toNat_lt a).mpr b
def BD{x:Int}{j n:Nat}(h:x<n)(e:x=j):j<n:=Int.ofNat_lt.mp (e▸h)
def Jh{j:Nat}(h:j<2):j=0∨j=1:=match j,h with
|0,_=>.inl rfl
|1,_=>.inr rfl
def U4(x:Int):(x.fmod 2).toNat=0∨(x.fmod 2).toNat=1:=Jh (su (Int.fmod_nonneg_of_pos _ ∅) (Int.fmod_lt_of_pos _ ∅))
def m2(x:Int):x.fmod 2=0∨x.fmod 2=1:=(U4 x).imp (λh=>Int.le_antisymm (Int.toNat_eq_zero.mp h) (Int.fmod_nonneg_of_pos _ ∅)) (λh=>Int.toNat_of_nonneg (Int.fmod_nonneg_of_pos x (b:=2) ∅)▸congrArg Int.ofNat h)
end Qh
namespace Qh
open PySem
set_option backward.match.sparseCases false
inductive V where
|none|bool (b:Bool)|int (i:Int)|str (s:Str)|ay (vs:List V)|ref (i:Nat)|cF
inductive O where
|af (vs:List V)|az (es:List (Str×V))|inst (c d:Nat)|dM (n:Int)
@[reducible]def H:=List O
inductive Res(α:Type) where
|ok (a:α) (U:H)|aF (c:Nat) (U:H)|bad
abbrev M(α:Type):=H->Res α
abbrev M.pure{α:Type}(a:α):M α:=λU=>.ok a U
abbrev M.bind{α d:Type}(m:M α)(f:α->M d):M d:=λU=>match m U with
|.ok a b=>f a b
|.aF c b=>.aF c b
|.bad=>.bad
abbrev M.fail{α:Type}:M α:=λ_=>.bad
abbrev dD{α:Type}:Option α->M α
|some a=>M.pure a
|none=>M.fail
abbrev cH(i:Nat):M O:=λU=>match U[i]? with|some o=>.ok o U|none=>.bad
abbrev jg(i:Nat)(o:O):M Unit:=λU=>.ok Unit.unit (U.set i o)
abbrev dB(o:O):M V:=λU=>.ok (.ref U.length) (U++[o])
abbrev aJ:Nat:=1000000
@[reducible]def aP:=List (Option V)
abbrev cy:aP->Nat->Option V
|[],_=>none
|x::_,0=>x
|_::r,n+1=>cy r n
abbrev cq:aP->Nat->V->aP
|[],_,_=>[]
|_::r,0,v=>some v::r
|x::r,n+1,v=>x::cq r n v
set_option genCtorIdx false
mutual
inductive E where
|none|bool (b:Bool)|int (i:Int)|str (s:Str)
|aa (i:Nat)|glob (g:Nat)
|ay (es:EL)|af (es:EL)|az (ks:List Str) (es:EL)
|ak (op:Operator) (a b:E)|neg (a:E)
|cmp (op:CmpOp) (a b:E)|jh (op op':CmpOp) (a b c:E)
|not (a:E)|and (es:EL)|or (es:EL)
|aq (a i:E)|slc (a lo hi:E)
|call (f:Nat) (es:EL)|cQ (f:Nat) (o:E) (es:EL)|new (c:Nat)|attr (o:E) (x:Str)
|len (a:E)|toInt (a:E)|toStr (a:E)|sum (a:E)|hY (a:E)|max2 (a b:E)|d0 (t:String) (a:E)
|list (a:E)|tuple (a:E)|dict (a:E)|join (a b:E)|get (a k d:E)
|comp (elt:E) (v:Nat) (br:List Nat) (src:E)|fX (elt:E) (v:Nat) (br:List Nat) (src test:E)|fZ (elt:E) (v:Nat) (br:List Nat) (n:E)
inductive EL where
|nil|cons (e:E) (r:EL)
end
mutual
inductive S where
|aK (i:Nat) (e:E)|ik (is:List Nat) (e:E)
|eX (o i e:E)|jQ (o:E) (x:Str) (e:E)
|append (o e:E)|update (o e:E)|expr (e:E)
|ite (c:E) (t e:SL)|sa (c:E) (b:SL)
|iL (i:Nat) (e:E) (b:SL)|eV (i:Nat) (e:E) (b:SL)|uv (i j:Nat) (a b:E) (bd:SL)
|ret (e:E)|sb|raise (c:Nat) (msg:Str)|hZ (b:SL) (c:Nat) (h:SL)
inductive SL where
|nil|cons (s:S) (r:SL)
end
set_option genCtorIdx true
structure Fn where
 arity:Nat
 slots:Nat
 body:SL
abbrev eg:V->M Bool
|.bool b=>M.pure b
|_=>M.fail
abbrev dQ:V->M Int
|.int b=>M.pure b
|_=>M.fail
abbrev Hf:V->M Str
|.str b=>M.pure b
|_=>M.fail
mutual
noncomputable def gu:V->V->Bool
|.none,.none=>true
|.int a,.int b=>a==b
|.str a,.str b=>a==b
|.ay a,.ay b=>ji a b
|_,_=>false
noncomputable def ji:List V->List V->Bool
|[],[]=>true
|a::r,b::t=>gu a b&&ji r t
|_,_=>false
end
mutual
noncomputable def V.deep:V->Nat
|.ay vs=>V.fj vs+1
|_=>0
noncomputable def V.fj:List V->Nat
|[]=>0
|v::r=>max v.deep (V.fj r)
end
mutual
noncomputable def V.ca:V->Bool
|.none=>true
|.int _=>true
|.str s=>s.cps.all (· < 0x110000)
|.ay vs=>V.eB vs
|_=>false
noncomputable def V.eB:List V->Bool
|[]=>true
|v::r=>v.ca&&V.eB r
end
abbrev bO:V->M (List V)
|.ref i=>M.bind (cH i) λo=>match o with|.af vs=>M.pure vs|_=>M.fail
|_=>M.fail
abbrev pQ:V->M (List (Str×V))
|.ref i=>M.bind (cH i) λo=>match o with|.az vs=>M.pure vs|_=>M.fail
|_=>M.fail
abbrev fR(x y:List V):Bool:=V.eB x&&V.eB y&&decide (V.fj x<=50)&&decide (V.fj y<=50)
abbrev iM:V->V->M Bool
|.str x,.str y=>M.pure (x==y)
|.int x,.int y=>M.pure (x==y)
|.ay x,.ay y=>if fR x y then M.pure (ji x y) else M.fail
|.ref i,.ref j=>M.bind (bO (.ref i)) λx=>M.bind (bO (.ref j)) λy=>if fR x y then M.pure (ji x y) else M.fail
|_,_=>M.fail
abbrev strsOf:List V->Option (List Str)
|[]=>some []
|.str i::r=>(strsOf r).map (i::·)
|_=>none
abbrev dn(es:List (Str×V))(k:Str):Option V:=(es.find? λe=>e.1=k).map (·.2)
abbrev bp(es:List (Str×V))(k:Str)(v:V):List (Str×V):=
 if es.any (λe=>e.1=k) then es.map (λe=>if e.1=k then(e.1,v) else e) else es++[(k,v)]
abbrev among(x:V)(vs:List V):M Bool:=match x,strsOf vs with
|.str k,some a=>M.pure (a.any (·==k))
|_,_=>if fR [x] vs then M.pure (vs.any λy=>gu y x) else M.fail
abbrev gR(x c:V):M Bool:=match c with
|.ay vs=>among x vs
|.str s=>match x with
  |.str y=>if y.cps.size=1 then M.pure (decide (y.cps.getD 0 0∈s.cps.toList)) else M.fail
  |_=>M.fail
|.ref i=>M.bind (cH i) λo=>match o with
  |.af vs=>among x vs
  |.az es=>match x with
   |.str k=>M.pure (dn es k).isSome
   |_=>M.fail
  |_=>M.fail
|_=>M.fail
abbrev dh(c:CmpOp)(a b:V):M Bool:=match c with
|.Eq=>iM a b
|.NotEq=>M.bind (iM a b) λx=>M.pure !x
|.Lt=>M.bind (dQ a) λx=>M.bind (dQ b) λy=>M.pure (decide (x<y))
|.Gt=>M.bind (dQ a) λx=>M.bind (dQ b) λy=>M.pure (decide (y<x))
|.LtE=>M.bind (dQ a) λx=>M.bind (dQ b) λy=>M.pure (decide (x<=y))
|.In=>gR a b
|.NotIn=>M.bind (gR a b) λx=>M.pure !x
|_=>M.fail
abbrev small(i:Int):Bool:=decide (-(2^64)<i)&&decide (i<2^64)
abbrev arith(f:Int->Int->M V)(a b:V):M V:=match a,b with
|.int x,.int y=>f x y
|_,_=>M.fail
abbrev A0(a b:V):M V:=match a,b with
|.int x,.int y=>M.pure (.int (x+y))
|.str x,.str y=>if x.length+y.length<=aJ then M.pure (.str (x++y)) else M.fail
|.ay x,.ay y=>if x.length+y.length<=aJ then M.pure (.ay (x++y)) else M.fail
|.ref i,.ref j=>M.bind (bO (.ref i)) λx=>M.bind (bO (.ref j)) λy=>if x.length+y.length<=aJ then dB (.af (x++y)) else M.fail
|_,_=>M.fail
abbrev binop(c:Operator)(a b:V):M V:=match c with
|.Add=>A0 a b
|.Sub=>arith (λx y=>M.pure (.int (x-y))) a b
|.Mult=>arith (λx y=>if small x||small y then M.pure (.int (x*y)) else M.fail) a b
|.Mod=>arith (λx y=>if y=0 then M.fail else M.pure (.int (x.fmod y))) a b
|.FloorDiv=>arith (λx y=>if y=0∨¬ y.natAbs<1073741824 then M.fail else M.pure (.int (x.fdiv y))) a b
|.Pow=>arith (λx y=>if small x/\0<=y/\y<=1000 then M.pure (.int (x^y.toNat)) else M.fail) a b
|_=>M.fail
abbrev fc{α:Type}(xs:List α)(k:Int):M α:=if 0<=k/\k<0x4000000000000000 then dD xs[k.toNat]? else M.fail
structure Ctx where
 script:List Int
 consts:Nat->Option V
 call:Nat->List V->M V
 fC:Nat->Nat
 qg:Nat->Nat->Bool
abbrev index(C:Ctx)(a i:V):M V:=match a,i with
|.ay b,.int k=>fc b k
|.str s,.int k=>M.bind (fc s.cps.toList k) λc=>M.pure (.str #[(List.toArray [c])])
|.cF,.int k=>M.bind (fc C.script k) λn=>M.pure (.int n)
|.ref j,.int k=>M.bind (bO (.ref j)) λb=>fc b k
|.ref j,.str k=>M.bind (cH j) λo=>match o with|.az es=>dD (dn es k)|_=>M.fail
|_,_=>M.fail
abbrev jM{α:Type}(xs:List α)(a b:V):M (List α):=match a,b with
|.none,.int h=>if 0<=h/\h<0x4000000000000000 then M.pure (xs.take h.toNat) else M.fail
|.int l,.none=>if 0<=l/\l<0x4000000000000000 then M.pure (xs.drop l.toNat) else M.fail
|.int l,.int h=>if 0<=l/\l<0x4000000000000000/\0<=h/\h<0x4000000000000000 then M.pure ((xs.take h.toNat).drop l.toNat) else M.fail
|_,_=>M.fail
abbrev rM:V->V->Bool
|.int _,.int _=>false
|_,_=>true
abbrev slice(a b c:V):M V:=match a with
|.ay d=>M.bind (jM d b c) λr=>if d.length<=aJ then M.pure (.ay r) else M.fail
|.ref i=>M.bind (bO (.ref i)) λd=>M.bind (jM d b c) λr=>if rM b c/\d.length<=aJ then dB (.af r) else M.fail
|.str x=>M.bind (jM x.cps.toList b c) λr=>if rM b c/\x.length<=aJ then M.pure (.str #[r.toArray]) else M.fail
|_=>M.fail
abbrev lenOf(C:Ctx):V->M V
|.ay a=>if a.length<=aJ then M.pure (.int a.length) else M.fail
|.str s=>if s.length<=aJ then M.pure (.int s.length) else M.fail
|.cF=>M.pure (.int C.script.length)
|.ref i=>M.bind (bO (.ref i)) λa=>if a.length<=aJ then M.pure (.int a.length) else M.fail
|_=>M.fail
abbrev intsOf:List V->Option (List Int)
|[]=>some []
|.int i::r=>(intsOf r).map (i::·)
|_=>none
abbrev se:List Int->Int
|[]=>0
|x::r=>r.foldl (λb v=>if v>b then v else b) x
abbrev gw:List String:=["int","bool","str","tuple","list"]
abbrev d0(t:String)(v:V):M Bool:=match v with
|.int _=>if t∈gw then M.pure (t=="int") else M.fail
|.bool _=>if t="int"∨t="bool" then M.pure true else M.fail
|.str _=>if t∈gw then M.pure (t=="str") else M.fail
|.ay _=>if t∈gw then M.pure (t=="tuple") else M.fail
|.ref i=>M.bind (bO (.ref i)) λ_=>if t="list" then M.pure true else M.fail
|_=>M.fail
abbrev fW(n:Int):Str:=Str.ofString (toString n)
abbrev wR(x:V):M V:=M.bind (eg x) λb=>M.pure (.int (if b then 1 else 0))
abbrev tR(x:V):M V:=M.bind (dQ x) λi=>if 0<=i/\i<10^10 then M.pure (.str (fW i)) else M.fail
abbrev oR(x:V):M V:=M.bind (bO x) λa=>M.bind (dD (intsOf a)) λns=>M.pure (.int ns.sum)
abbrev qh(x:V):M V:=M.bind (bO x) λa=>M.bind (dD (intsOf a)) λns=>M.pure (.int (se ns))
abbrev xo(x y:V):M V:=M.bind (dQ x) λi=>M.bind (dQ y) λj=>M.pure (.int (if j>i then j else i))
abbrev rU(x:V):M V:=match x with
|.ay vs=>if vs.length<=aJ then dB (.af vs) else M.fail
|_=>M.fail
abbrev kn(x:V):M V:=M.bind (bO x) λa=>if a.length<=aJ then M.pure (.ay a) else M.fail
abbrev oF(x:V):M V:=match x with
|.ref i=>M.bind (cH i) λo=>match o with
  |.az es=>if es.length<=aJ then dB (.az es) else M.fail
  |_=>M.fail
|_=>M.fail
abbrev joinM(x y:V):M V:=M.bind (Hf x) λsep=>M.bind (bO y) λb=>M.bind (dD (strsOf b)) λa=>if sep.length=0/\(a.map Str.length).sum<=aJ then M.pure (.str (Str.join sep a)) else M.fail
abbrev getM(x y z:V):M V:=match x,y with
|.ref i,.str s=>M.bind (cH i) λo=>match o with
  |.az es=>M.pure ((dn es s).getD z)
  |_=>M.fail
|_,_=>M.fail
abbrev iH(v:V):M (Nat×Int):=match v with
|.ref i=>M.bind (cH i) λa=>match a with
  |.inst _ d=>M.bind (cH d) λb=>match b with
   |.dM n=>M.pure (d,n)
   |_=>M.fail
  |_=>M.fail
|_=>M.fail
abbrev Hg(v:V):M V:=M.bind (iH v) λp=>M.pure (.int p.2)
set_option genCtorIdx false in
inductive Src where
|live (i:Nat)|fix (vs:List V)
abbrev kZ(x:Str):List V:=x.cps.toList.map λc=>.str #[(List.toArray [c])]
abbrev srcOf:V->M Src
|.ref i=>M.bind (bO (.ref i)) λ_=>M.pure (.live i)
|.ay vs=>M.pure (.fix vs)
|.str x=>if x.cps.all (· < 128) then M.pure (.fix (kZ x)) else M.fail
|_=>M.fail
abbrev ea:Src->Nat->M (Option V)
|.fix a,k=>M.pure a[k]?
|.live i,k=>M.bind (bO (.ref i)) λa=>M.pure a[k]?
abbrev fh:Src->M Nat
|.fix a=>M.pure a.length
|.live i=>M.bind (bO (.ref i)) λa=>M.pure a.length
abbrev d9(n:Int):List V:=(List.range n.toNat).map λ(k:Nat)=>V.int k
abbrev dG(s:Src)(f:V->M (Option V)):Nat->Nat->M (List V)
|0,_=>M.fail
|n+1,k=>M.bind (ea s k) λx=>match x with
  |none=>M.pure []
  |some v=>M.bind (f v) λy=>M.bind (dG s f n (k+1)) λr=>M.pure (y.toList++r)
abbrev dj(L:aP)(br:List Nat):aP:=L.zipIdx.map λp=>if br.contains p.2 then p.1 else none
mutual
noncomputable def aj(C:Ctx):E->aP->M V
|.none,_=>M.pure .none
|.bool b,_=>M.pure (.bool b)
|.int i,_=>M.pure (.int i)
|.str s,_=>M.pure (.str s)
|.aa i,L=>dD (cy L i)
|.glob g,_=>dD (C.consts g)
|.ay es,L=>M.bind (dC C es L) λm=>if m.length<=aJ then M.pure (.ay m) else M.fail
|.af es,L=>M.bind (dC C es L) λm=>if m.length<=aJ then dB (.af m) else M.fail
|.az ks es,L=>M.bind (dC C es L) λm=>if ks.length=m.length/\ks.Nodup/\ks.length<=15 then dB (.az (ks.zip m)) else M.fail
|.ak op a b,L=>M.bind (aj C a L) λx=>M.bind (aj C b L) λy=>binop op x y
|.neg a,L=>M.bind (aj C a L) λx=>M.bind (dQ x) λi=>M.pure (.int (-i))
|.cmp op a b,L=>M.bind (aj C a L) λx=>M.bind (aj C b L) λy=>M.bind (dh op x y) λr=>M.pure (.bool r)
|.jh op p a b c,L=>M.bind (aj C a L) λx=>M.bind (aj C b L) λy=>M.bind (dh op x y) λr=>if r then M.bind (aj C c L) λz=>M.bind (dh p y z) λw=>M.pure (.bool w) else M.pure (.bool false)
|.not a,L=>M.bind (aj C a L) λx=>M.bind (eg x) λb=>M.pure (.bool !b)
|.and es,L=>oG C es L
|.or es,L=>oS C es L
|.aq a i,L=>M.bind (aj C a L) λx=>M.bind (aj C i L) λy=>index C x y
|.slc a lo A,L=>M.bind (aj C a L) λx=>M.bind (aj C lo L) λl=>M.bind (aj C A L) λh=>slice x l h
|.call f es,L=>M.bind (dC C es L) λm=>C.call f m
|.cQ f o es,L=>M.bind (aj C o L) λx=>M.bind (iH x) λ_=>M.bind (dC C es L) λm=>C.call f (x::m)
|.new c,_=>M.bind (dB (.dM 0)) λd=>match d with
  |.ref j=>dB (.inst c j)
  |_=>M.fail
|.attr o _,L=>M.bind (aj C o L) λv=>Hg v
|.len a,L=>M.bind (aj C a L) λx=>lenOf C x
|.toInt a,L=>M.bind (aj C a L) λx=>wR x
|.toStr a,L=>M.bind (aj C a L) λx=>tR x
|.sum a,L=>M.bind (aj C a L) λx=>oR x
|.hY a,L=>M.bind (aj C a L) λx=>qh x
|.max2 a b,L=>M.bind (aj C a L) λx=>M.bind (aj C b L) λy=>xo x y
|.d0 t a,L=>M.bind (aj C a L) λx=>M.bind (d0 t x) λb=>M.pure (.bool b)
|.list a,L=>M.bind (aj C a L) λx=>rU x
|.tuple a,L=>M.bind (aj C a L) λx=>kn x
|.dict a,L=>M.bind (aj C a L) λx=>oF x
|.join a b,L=>M.bind (aj C a L) λx=>M.bind (aj C b L) λy=>joinM x y
|.get a k d,L=>M.bind (aj C a L) λx=>M.bind (pQ x) λ_=>M.bind (aj C k L) λy=>M.bind (aj C d L) λz=>getM x y z
|.comp elt v br src,L=>M.bind (aj C src L) λx=>M.bind (srcOf x) λu=>M.bind (fh u) λn=>
   if n<=aJ then M.bind (dG u (λq=>M.bind (aj C elt (cq (dj L br) v q)) λy=>M.pure (some y)) (n+1) 0) λm=>dB (.af m) else M.fail
|.fX elt v br src test,L=>M.bind (aj C src L) λx=>M.bind (srcOf x) λu=>M.bind (fh u) λn=>
   if n<=aJ then M.bind (dG u (λq=>M.bind (bQ C test (cq (dj L br) v q)) λb=>if b then M.bind (aj C elt (cq (dj L br) v q)) λy=>M.pure (some y) else M.pure none) (n+1) 0) λm=>dB (.af m) else M.fail
|.fZ elt v br e,L=>M.bind (aj C e L) λx=>M.bind (dQ x) λn=>if 0<=n/\n<=1000000 then
   M.bind (dG (.fix (d9 n)) (λq=>M.bind (aj C elt (cq (dj L br) v q)) λy=>M.pure (some y)) (n.toNat+1) 0) λm=>dB (.af m) else M.fail
noncomputable def dC(C:Ctx):EL->aP->M (List V)
|.nil,_=>M.pure []
|.cons e r,L=>M.bind (aj C e L) λv=>M.bind (dC C r L) λm=>M.pure (v::m)
noncomputable def oG(C:Ctx):EL->aP->M V
|.nil,_=>M.fail
|.cons e .nil,L=>M.bind (aj C e L) λv=>M.bind (eg v) λb=>M.pure (.bool b)
|.cons e r,L=>M.bind (aj C e L) λv=>M.bind (eg v) λb=>if b then oG C r L else M.pure (.bool false)
noncomputable def oS(C:Ctx):EL->aP->M V
|.nil,_=>M.fail
|.cons e .nil,L=>M.bind (aj C e L) λv=>M.bind (eg v) λb=>M.pure (.bool b)
|.cons e r,L=>M.bind (aj C e L) λv=>M.bind (eg v) λb=>if b then M.pure (.bool true) else oS C r L
noncomputable def bQ(C:Ctx):E->aP->M Bool
|.not a,L=>M.bind (bQ C a L) λb=>M.pure !b
|.and es,L=>kx C es L
|.or es,L=>ky C es L
|.cmp op a b,L=>M.bind (aj C a L) λx=>M.bind (aj C b L) λy=>dh op x y
|.jh op p a b c,L=>M.bind (aj C a L) λx=>M.bind (aj C b L) λy=>M.bind (dh op x y) λr=>if r then M.bind (aj C c L) λz=>dh p y z else M.pure false
|.bool b,_=>M.pure b
|.aa i,L=>M.bind (dD (cy L i)) eg
|.call f es,L=>M.bind (M.bind (dC C es L) λm=>C.call f m) eg
|.d0 t a,L=>M.bind (aj C a L) λx=>d0 t x
|.aq a i,L=>M.bind (M.bind (aj C a L) λx=>M.bind (aj C i L) λy=>index C x y) eg
|.none,_=>M.fail
|.int _,_=>M.fail
|.str _,_=>M.fail
|.glob _,_=>M.fail
|.ay _,_=>M.fail
|.af _,_=>M.fail
|.az _ _,_=>M.fail
|.ak _ _ _,_=>M.fail
|.neg _,_=>M.fail
|.slc _ _ _,_=>M.fail
|.cQ _ _ _,_=>M.fail
|.new _,_=>M.fail
|.attr _ _,_=>M.fail
|.len _,_=>M.fail
|.toInt _,_=>M.fail
|.toStr _,_=>M.fail
|.sum _,_=>M.fail
|.hY _,_=>M.fail
|.max2 _ _,_=>M.fail
|.list _,_=>M.fail
|.tuple _,_=>M.fail
|.dict _,_=>M.fail
|.join _ _,_=>M.fail
|.get _ _ _,_=>M.fail
|.comp _ _ _ _,_=>M.fail
|.fX _ _ _ _ _,_=>M.fail
|.fZ _ _ _ _,_=>M.fail
noncomputable def kx(C:Ctx):EL->aP->M Bool
|.nil,_=>M.pure true
|.cons e r,L=>M.bind (bQ C e L) λb=>if b then kx C r L else M.pure false
noncomputable def ky(C:Ctx):EL->aP->M Bool
|.nil,_=>M.pure false
|.cons e r,L=>M.bind (bQ C e L) λb=>if b then M.pure true else ky C r L
end
set_option genCtorIdx false in
inductive Fl where
|next|brk|cont|ret (v:V)
inductive RN(α:Type) where
|ok (a:α) (L:aP) (U:H)|aF (c:Nat) (L:aP) (U:H)|bad
abbrev N(α:Type):=aP->H->RN α
abbrev N.pure{α:Type}(a:α):N α:=λL U=>.ok a L U
abbrev N.bind{α d:Type}(m:N α)(f:α->N d):N d:=λL U=>match m L U with
|.ok a L' b=>f a L' b
|.aF c L' b=>.aF c L' b
|.bad=>.bad
abbrev N.lift{α:Type}(m:aP->M α):N α:=λL U=>match m L U with
|.ok a b=>.ok a L b
|.aF c b=>.aF c L b
|.bad=>.bad
abbrev N.put(i:Nat)(v:V):N Unit:=λL U=>.ok Unit.unit (cq L i v) U
abbrev N.fail{α:Type}:N α:=λ_ _=>.bad
abbrev N.gm:List Nat->List V->N Unit
|[],[]=>N.pure Unit.unit
|i::is,v::vs=>N.bind (N.put i v) λ_=>N.gm is vs
|_,_=>N.fail
abbrev wU(t:N Bool)(b:N Fl):Nat->N Fl
|0=>N.fail
|n+1=>N.bind t λc=>if c then N.bind b λf=>match f with
   |.next=>wU t b n
   |.cont=>wU t b n
   |.brk=>N.pure .next
   |.ret v=>N.pure (.ret v)
  else N.pure .next
abbrev eK(a:Nat->M (Option (List (Nat×V))))(b:N Fl):Nat->Nat->N Fl
|0,_=>N.fail
|n+1,k=>N.bind (N.lift λ_=>a k) λx=>match x with
  |none=>N.pure .next
  |some ps=>N.bind (N.gm (ps.map (·.1)) (ps.map (·.2))) λ_=>N.bind b λf=>match f with
   |.next=>eK a b n (k+1)
   |.cont=>eK a b n (k+1)
   |.brk=>N.pure .next
   |.ret v=>N.pure (.ret v)
abbrev iB(o i e:V):M Unit:=match o,i with
|.ref j,.int k=>M.bind (bO (.ref j)) λa=>if 0<=k/\k<a.length/\a.length<=aJ then jg j (.af (a.set k.toNat e)) else M.fail
|.ref j,.str k=>M.bind (cH j) λb=>match b with|.az es=>if es.length<=aJ then jg j (.az (bp es k e)) else M.fail|_=>M.fail
|_,_=>M.fail
abbrev vI(o e:V):M Unit:=M.bind (iH o) λp=>M.bind (dQ e) λm=>jg p.1 (.dM m)
abbrev tJ(o e:V):M Unit:=match o with
|.ref j=>M.bind (bO (.ref j)) λa=>if a.length<=aJ then jg j (.af (a++[e])) else M.fail
|_=>M.fail
abbrev iI:List (Str×V)->List (Str×V)->List (Str×V)
|es,[]=>es
|es,(k,v)::r=>iI (bp es k v) r
abbrev wC(o e:V):M Unit:=match o,e with
|.ref i,.ref j=>M.bind (cH i) λa=>M.bind (cH j) λb=>match a,b with
  |.az x,.az y=>if x.length+y.length<=aJ/\i≠j then jg i (.az (iI x y)) else M.fail
  |_,_=>M.fail
|_,_=>M.fail
abbrev Q6(us a:List V)(i j k:Nat):Option (List (Nat×V)):=us[k]?.bind λu=>a[k]?.map λw=>[(i,u),(j,w)]
abbrev Hh:V->M (List V)
|.ay vs=>M.pure vs
|_=>M.fail
mutual
noncomputable def cT(C:Ctx):S->N Fl
|.aK i e=>N.bind (N.lift (aj C e)) λv=>N.bind (N.put i v) λ_=>N.pure .next
|.ik is e=>N.bind (N.lift (aj C e)) λv=>match v with
  |.ay d=>N.bind (N.gm is d) λ_=>N.pure .next
  |.ref _=>N.bind (N.lift λ_=>bO v) λd=>N.bind (N.gm is d) λ_=>N.pure .next
  |_=>N.fail
|.eX o i e=>N.bind (N.lift (aj C e)) λv=>N.bind (N.lift (aj C o)) λx=>N.bind (N.lift (aj C i)) λy=>N.bind (N.lift λ_=>iB x y v) λ_=>N.pure .next
|.jQ o _ e=>N.bind (N.lift (aj C e)) λv=>N.bind (N.lift (aj C o)) λp=>N.bind (N.lift λ_=>vI p v) λ_=>N.pure .next
|.append o e=>N.bind (N.lift (aj C o)) λx=>N.bind (N.lift λ_=>bO x) λ_=>N.bind (N.lift (aj C e)) λv=>N.bind (N.lift λ_=>tJ x v) λ_=>N.pure .next
|.update o e=>N.bind (N.lift (aj C o)) λx=>N.bind (N.lift λ_=>pQ x) λ_=>N.bind (N.lift (aj C e)) λv=>N.bind (N.lift λ_=>wC x v) λ_=>N.pure .next
|.expr e=>N.bind (N.lift (aj C e)) λ_=>N.pure .next
|.ite c t e=>N.bind (N.lift (bQ C c)) λb=>if b then a8 C t else a8 C e
|.sa c b=>wU (N.lift (bQ C c)) (a8 C b) 100000
|.iL i e b=>N.bind (N.lift (aj C e)) λx=>N.bind (N.lift λ_=>srcOf x) λl=>N.bind (N.lift λ_=>fh l) λn=>
   eK (λk=>M.bind (ea l k) λy=>M.pure (y.map λv=>[(i,v)])) (a8 C b) (n+1) 0
|.eV i e b=>N.bind (N.lift (aj C e)) λx=>N.bind (N.lift λ_=>dQ x) λn=>if 0<=n/\n<=1000000 then
   eK (λk=>M.pure ((d9 n)[k]?.map λv=>[(i,v)])) (a8 C b) (n.toNat+1) 0 else N.fail
|.uv i j a b bd=>N.bind (N.lift (aj C a)) λx=>N.bind (N.lift (aj C b)) λy=>N.bind (N.lift λ_=>Hh x) λm=>N.bind (N.lift λ_=>Hh y) λq=>
   eK (λk=>M.pure (Q6 m q i j k)) (a8 C bd) (m.length+1) 0
|.ret e=>N.bind (N.lift (aj C e)) λv=>N.pure (.ret v)
|.sb=>N.pure (.ret .none)
|.raise c _=>λL U=>.aF c L U
|.hZ b c h=>λL U=>match a8 C b L U with
  |.ok f L' g=>.ok f L' g
  |.aF c' L' g=>if c'=c then a8 C h L' g else .bad
  |.bad=>.bad
noncomputable def a8(C:Ctx):SL->N Fl
|.nil=>N.pure .next
|.cons s r=>N.bind (cT C s) λf=>match f with
  |.next=>a8 C r
  |f=>N.pure f
end
structure Prog where
 fns:Nat->Option Fn
 consts:Nat->Option V
 fC:Nat->Nat
 qg:Nat->Nat->Bool
abbrev cp:RN Fl->Res V
|.ok (.ret v) _ U=>.ok v U
|.ok .next _ U=>.ok .none U
|.ok _ _ _=>.bad
|.aF c _ U=>.aF c U
|.bad=>.bad
abbrev runM(m:N Fl)(L:aP):M V:=λU=>cp (m L U)
abbrev av(P:Prog)(script:List Int):Nat->Nat->List V->M V
|0,_,_=>M.fail
|n+1,f,vs=>match P.fns f with
  |none=>M.fail
  |some fn=>if vs.length=fn.arity then runM (a8 #[script,P.consts,av P script n,P.fC,P.qg] fn.body) (vs.map some++List.replicate (fn.slots-fn.arity) none) else M.fail
structure Df where
 name:Str
 fn:Fn
 slots:List Str
structure Info where
 defs:List (Option Df)
 consts:List (Option (Str×V))
 meths:List Nat
abbrev Info.df(I:Info)(f:Nat):Option Df:=I.defs[f]?.join
abbrev Info.cn(I:Info)(f:Nat):Option (Str×V):=I.consts[f]?.join
abbrev Info.fns(I:Info)(f:Nat):Option Fn:=(I.df f).map (·.fn)
abbrev Info.prog(I:Info):Prog:=#[I.fns,λg=>(I.cn g).map (·.2),λ_=>0,λ_ _=>false]
set_option backward.match.sparseCases true
section
variable{α:Type}{a b:α}{U ah:H}{L L':aP}{c c':Nat}{X:Prop}
def ff(h:false=true):X:=Bool.noConfusion h
def tf(h:true=false):X:=Bool.noConfusion h
def bR(h:none=some a):X:=by cases h
def ez(h:some a=none):X:=by cases h
def d7(h:some a=some b)(k:a=b->X):X:=k (Option.some.inj h)
def dc(h:Res.bad=.ok a U):X:=by cases h
def U5(h:Res.aF c ah=.ok a U):X:=by cases h
def sv(h:Res.ok a ah=.aF c U):X:=by cases h
def lM(h:(Res.bad:Res α)=.aF c U):X:=by cases h
def eR(h:Res.ok a U=.ok b ah)(k:a=b->U=ah->X):X:=by cases h;exact k rfl rfl
def BE(h:(Res.aF c U:Res α)=.aF c' ah)(k:c=c'->U=ah->X):X:=by cases h;exact k rfl rfl
def qG(h:RN.bad=.ok a L U):X:=by cases h
def Ji(h:RN.aF c L' ah=.ok a L U):X:=by cases h
def js(h:RN.ok a L' ah=.aF c L U):X:=by cases h
def uP(h:(RN.bad:RN α)=.aF c L U):X:=by cases h
def U6(h:RN.ok a L U=.ok b L' ah)(k:a=b->L=L'->U=ah->X):X:=by cases h;exact k rfl rfl rfl
def xX(h:(RN.aF c L U:RN α)=.aF c' L' ah)(k:c=c'->L=L'->U=ah->X):X:=by cases h;exact k rfl rfl rfl
def jt{i j:Nat}(h:V.ref i=.ref j)(k:i=j->X):X:=k (by cases h;rfl)
def fO{mo:α->H->Prop}(h:Res.ok a U=.ok b ah)(m:mo a U):mo b ah:=eR h λe d=>e▸d▸m
def xY{mo:α->aP->H->Prop}(h:RN.ok a L U=.ok b L' ah)(m:mo a L U):mo b L' ah:=U6 h λe d f=>e▸d▸f▸m
def U7{mo:Nat->H->Prop}(h:(Res.aF c U:Res α)=.aF c' ah)(m:mo c U):mo c' ah:=BE h λe d=>e▸d▸m
def Jj{mo:Nat->aP->H->Prop}(h:(RN.aF c L U:RN α)=.aF c' L' ah)(m:mo c L U):mo c' L' ah:=xX h λe d f=>e▸d▸f▸m
def fg{mo:α->Prop}(h:some a=some b)(m:mo a):mo b:=Option.some.inj h▸m
end
end Qh
namespace Qh
set_option backward.match.sparseCases false
open PySem
section
def pR:aj C .none u1=(M.pure .none):=rfl
def pT:aj C (.bool b) u1=(M.pure (.bool b)):=rfl
def om:aj C (.int i) u1=(M.pure (.int i)):=rfl
def pU:aj C (.str s) u1=(M.pure (.str s)):=rfl
def pV:aj C (.aa i) L=(dD (cy L i)):=rfl
def rE:aj C (.glob g) u1=(dD (C.consts g)):=rfl
def oo:aj C (.ay es) L=(M.bind (dC C es L) λa=>if a.length<=aJ then M.pure (.ay a) else M.fail):=rfl
def oq:aj C (.af es) L=(M.bind (dC C es L) λa=>if a.length<=aJ then dB (.af a) else M.fail):=rfl
def nT:aj C (.ak op a b) L=(M.bind (aj C a L) λx=>M.bind (aj C b L) λy=>binop op x y):=rfl
def pG:aj C (.neg a) L=(M.bind (aj C a L) λx=>M.bind (dQ x) λi=>M.pure (.int (-i))):=rfl
def nU:aj C (.cmp op a b) L=(M.bind (aj C a L) λx=>M.bind (aj C b L) λy=>M.bind (dh op x y) λr=>M.pure (.bool r)):=rfl
def M6:aj C (.jh op op' a b c) L=(M.bind (aj C a L) λx=>M.bind (aj C b L) λy=>M.bind (dh op x y) λr=>if r then M.bind (aj C c L) λz=>M.bind (dh op' y z) λd=>M.pure (.bool d) else M.pure (.bool false)):=rfl
def nV:aj C (.not a) L=(M.bind (aj C a L) λx=>M.bind (eg x) λb=>M.pure (.bool !b)):=rfl
def l9:aj C (.and es) L=(oG C es L):=rfl
def ma:aj C (.or es) L=(oS C es L):=rfl
def nW:aj C (.aq a i) L=(M.bind (aj C a L) λx=>M.bind (aj C i L) λy=>index C x y):=rfl
def mc:aj C (.slc a lo hi) L=(M.bind (aj C a L) λx=>M.bind (aj C lo L) λl=>M.bind (aj C hi L) λh=>slice x l h):=rfl
def kR:aj C (.call f es) L=(M.bind (dC C es L) λa=>C.call f a):=rfl
def y0:aj C (.cQ f o es) L=(M.bind (aj C o L) λx=>M.bind (iH x) λ_=>M.bind (dC C es L) λa=>C.call f (x::a)):=rfl
def M7:aj C (.new c) u1=(M.bind (dB (.dM 0)) λd=>match d with
  |.ref j=>dB (.inst c j)
  |_=>M.fail):=rfl
def M8:aj C (.attr o u1) L=(M.bind (aj C o L) λv=>Hg v):=rfl
def jA:aj C (.len a) L=(M.bind (aj C a L) λx=>lenOf C x):=rfl
def nX:aj C (.toInt a) L=(M.bind (aj C a L) λx=>wR x):=rfl
def EA:aj C (.toStr a) L=(M.bind (aj C a L) λx=>tR x):=rfl
def nY:aj C (.sum a) L=(M.bind (aj C a L) λx=>oR x):=rfl
def nZ:aj C (.hY a) L=(M.bind (aj C a L) λx=>qh x):=rfl
def M9:aj C (.max2 a b) L=(M.bind (aj C a L) λx=>M.bind (aj C b L) λy=>xo x y):=rfl
def pH:aj C (.d0 t a) L=(M.bind (aj C a L) λx=>M.bind (d0 t x) λb=>M.pure (.bool b)):=rfl
def pJ:aj C (.list a) L=(M.bind (aj C a L) λx=>rU x):=rfl
def Na:aj C (.tuple a) L=(M.bind (aj C a L) λx=>kn x):=rfl
def Nb:aj C (.dict a) L=(M.bind (aj C a L) λx=>oF x):=rfl
def n0:aj C (.join a b) L=(M.bind (aj C a L) λx=>M.bind (aj C b L) λy=>joinM x y):=rfl
def Nc:aj C (.get a k d) L=(M.bind (aj C a L) λx=>M.bind (pQ x) λ_=>M.bind (aj C k L) λy=>M.bind (aj C d L) λz=>getM x y z):=rfl
def md:aj C (.comp elt v br src) L=(M.bind (aj C src L) λx=>M.bind (srcOf x) λa=>M.bind (fh a) λn=>
   if n<=aJ then M.bind (dG a (λb=>M.bind (aj C elt (cq (dj L br) v b)) λy=>M.pure (some y)) (n+1) 0) λc=>dB (.af c) else M.fail):=rfl
def Nd:aj C (.fX elt v br src test) L=(M.bind (aj C src L) λx=>M.bind (srcOf x) λa=>M.bind (fh a) λn=>
   if n<=aJ then M.bind (dG a (λc=>M.bind (bQ C test (cq (dj L br) v c)) λb=>if b then M.bind (aj C elt (cq (dj L br) v c)) λy=>M.pure (some y) else M.pure none) (n+1) 0) λd=>dB (.af d) else M.fail):=rfl
def n5:aj C (.fZ elt v br e) L=(M.bind (aj C e L) λx=>M.bind (dQ x) λn=>if 0<=n/\n<=1000000 then
   M.bind (dG (.fix (d9 n)) (λa=>M.bind (aj C elt (cq (dj L br) v a)) λy=>M.pure (some y)) (n.toNat+1) 0) λb=>dB (.af b) else M.fail):=rfl
def Nf:dC C .nil u1=(M.pure []):=rfl
def y4:dC C (.cons e r) L=(M.bind (aj C e L) λv=>M.bind (dC C r L) λa=>M.pure (v::a)):=rfl
def wD:bQ C (.not a) L=(M.bind (bQ C a L) λb=>M.pure !b):=rfl
def tK:bQ C (.and es) L=(kx C es L):=rfl
def wF:bQ C (.or es) L=(ky C es L):=rfl
def wG:bQ C (.cmp op a b) L=(M.bind (aj C a L) λx=>M.bind (aj C b L) λy=>dh op x y):=rfl
def zG:bQ C (.bool b) u1=(M.pure b):=rfl
def zH:bQ C (.aa i) L=(M.bind (dD (cy L i)) eg):=rfl
def wH:bQ C (.call f es) L=(M.bind (M.bind (dC C es L) λa=>C.call f a) eg):=rfl
def zI:bQ C (.d0 t a) L=(M.bind (aj C a L) λx=>d0 t x):=rfl
def vJ:bQ C (.aq a i) L=(M.bind (M.bind (aj C a L) λx=>M.bind (aj C i L) λy=>index C x y) eg):=rfl
def Ma:kx C (.cons e r) L=(M.bind (bQ C e L) λb=>if b then kx C r L else M.pure false):=rfl
def Mb:ky C (.cons e r) L=(M.bind (bQ C e L) λb=>if b then M.pure true else ky C r L):=rfl
def ot:cT C (.aK i e)=(N.bind (N.lift (aj C e)) λv=>N.bind (N.put i v) λ_=>N.pure .next):=rfl
def FD:cT C (.ik is e)=(N.bind (N.lift (aj C e)) λv=>match v with
  |.ay a=>N.bind (N.gm is a) λ_=>N.pure .next
  |.ref _=>N.bind (N.lift λ_=>bO v) λa=>N.bind (N.gm is a) λ_=>N.pure .next
  |_=>N.fail):=rfl
def kT:cT C (.eX o i e)=(N.bind (N.lift (aj C e)) λv=>N.bind (N.lift (aj C o)) λx=>N.bind (N.lift (aj C i)) λy=>N.bind (N.lift λ_=>iB x y v) λ_=>N.pure .next):=rfl
def OJ:cT C (.jQ o u1 e)=(N.bind (N.lift (aj C e)) λv=>N.bind (N.lift (aj C o)) λa=>N.bind (N.lift λ_=>vI a v) λ_=>N.pure .next):=rfl
def ml:cT C (.append o e)=(N.bind (N.lift (aj C o)) λx=>N.bind (N.lift λ_=>bO x) λ_=>N.bind (N.lift (aj C e)) λv=>N.bind (N.lift λ_=>tJ x v) λ_=>N.pure .next):=rfl
def OK:cT C (.update o e)=(N.bind (N.lift (aj C o)) λx=>N.bind (N.lift λ_=>pQ x) λ_=>N.bind (N.lift (aj C e)) λv=>N.bind (N.lift λ_=>wC x v) λ_=>N.pure .next):=rfl
def OL:cT C (.expr e)=(N.bind (N.lift (aj C e)) λ_=>N.pure .next):=rfl
def ou:cT C (.ite c t e)=(N.bind (N.lift (bQ C c)) λb=>if b then a8 C t else a8 C e):=rfl
def ox:cT C (.sa c b)=(wU (N.lift (bQ C c)) (a8 C b) 100000):=rfl
def me:cT C (.iL i e b)=(N.bind (N.lift (aj C e)) λx=>N.bind (N.lift λ_=>srcOf x) λa=>N.bind (N.lift λ_=>fh a) λn=>
   eK (λk=>M.bind (ea a k) λy=>M.pure (y.map λv=>[(i,v)])) (a8 C b) (n+1) 0):=rfl
def kS:cT C (.eV i e b)=(N.bind (N.lift (aj C e)) λx=>N.bind (N.lift λ_=>dQ x) λn=>if 0<=n/\n<=1000000 then
   eK (λk=>M.pure ((d9 n)[k]?.map λv=>[(i,v)])) (a8 C b) (n.toNat+1) 0 else N.fail):=rfl
def n6:cT C (.ret e)=(N.bind (N.lift (aj C e)) λv=>N.pure (.ret v)):=rfl
def EB:cT C (.hZ b c h)=(λL U=>match a8 C b L U with
  |.ok f L' a=>.ok f L' a
  |.aF c' L' a=>if c'=c then a8 C h L' a else .bad
  |.bad=>.bad):=rfl
def rg:a8 C .nil=(N.pure .next):=rfl
def rh:a8 C (.cons s r)=(N.bind (cT C s) λf=>match f with
  |.next=>a8 C r
  |f=>N.pure f):=rfl
def yO:index C (.ay vs) (.int k)=(fc vs k):=rfl
def yP:index C (.str s) (.int k)=(M.bind (fc s.cps.toList k) λc=>M.pure (.str #[(List.toArray [c])])):=rfl
def yQ:index C .cF (.int k)=(M.bind (fc C.script k) λn=>M.pure (.int n)):=rfl
def yR:index C (.ref j) (.int k)=(M.bind (bO (.ref j)) λa=>fc a k):=rfl
def vz:index C (.ref j) (.str k)=(M.bind (cH j) λo=>match o with|.az es=>dD (dn es k)|_=>M.fail):=rfl
def lZ:dh .Eq a b=(iM a b):=rfl
def pf:dh .NotEq a b=(M.bind (iM a b) λx=>M.pure !x):=rfl
def Dy:dh .Lt a b=(M.bind (dQ a) λx=>M.bind (dQ b) λy=>M.pure (decide (x<y))):=rfl
def Dz:dh .Gt a b=(M.bind (dQ a) λx=>M.bind (dQ b) λy=>M.pure (decide (y<x))):=rfl
def DA:dh .LtE a b=(M.bind (dQ a) λx=>M.bind (dQ b) λy=>M.pure (decide (x<=y))):=rfl
def qV:dh .In a b=(gR a b):=rfl
def sU:dh .NotIn a b=(M.bind (gR a b) λx=>M.pure !x):=rfl
def Ng:iM (.str x) (.str y)=(M.pure (x==y)):=rfl
def EC:iM (.int x) (.int y)=(M.pure (x==y)):=rfl
def Nh:iM (.ref i) (.ref j)=(M.bind (bO (.ref i)) λx=>M.bind (bO (.ref j)) λy=>if fR x y then M.pure (ji x y) else M.fail):=rfl
def zJ:gR x (.ref i)=(M.bind (cH i) λo=>match o with
  |.af vs=>among x vs
  |.az es=>match x with
   |.str k=>M.pure (dn es k).isSome
   |_=>M.fail
  |_=>M.fail):=rfl
def DB:lenOf C (.ay vs)=(if vs.length<=aJ then M.pure (.int vs.length) else M.fail):=rfl
def DC:lenOf C (.str s)=(if s.length<=aJ then M.pure (.int s.length) else M.fail):=rfl
def DD:lenOf C .cF=(M.pure (.int C.script.length)):=rfl
def yS:lenOf C (.ref i)=(M.bind (bO (.ref i)) λa=>if a.length<=aJ then M.pure (.int a.length) else M.fail):=rfl
def Lr:d0 t (.int u1)=(if t∈gw then M.pure (t=="int") else M.fail):=rfl
def Ls:d0 t (.bool u1)=(if t="int"∨t="bool" then M.pure true else M.fail):=rfl
def CZ:d0 t (.str u1)=(if t∈gw then M.pure (t=="str") else M.fail):=rfl
def C0:d0 t (.ay u1)=(if t∈gw then M.pure (t=="tuple") else M.fail):=rfl
def Lu:d0 t (.ref i)=(M.bind (bO (.ref i)) λ_=>if t="list" then M.pure true else M.fail):=rfl
def Mc:jM xs (.int l) .none=(if 0<=l/\l<0x4000000000000000 then M.pure (xs.drop l.toNat) else M.fail):=rfl
def Md:slice (.ref i) lo hi=(M.bind (bO (.ref i)) λa=>M.bind (jM a lo hi) λr=>if rM lo hi/\a.length<=aJ then dB (.af r) else M.fail):=rfl
def DE:slice (.str x) lo hi=(M.bind (jM x.cps.toList lo hi) λr=>if rM lo hi/\x.length<=aJ then M.pure (.str #[r.toArray]) else M.fail):=rfl
def CD:iB (.ref j) (.int k) e=(M.bind (bO (.ref j)) λa=>if 0<=k/\k<a.length/\a.length<=aJ then jg j (.af (a.set k.toNat e)) else M.fail):=rfl
def K7:iB (.ref j) (.str k) e=(M.bind (cH j) λa=>match a with|.az es=>if es.length<=aJ then jg j (.az (bp es k e)) else M.fail|_=>M.fail):=rfl
def Lw:strsOf []=(some []):=rfl
def C1:strsOf (.str i::r)=((strsOf r).map (i::·)):=rfl
def Ly:intsOf []=(some []):=rfl
def Lz:intsOf (.int i::r)=((intsOf r).map (i::·)):=rfl
def vA:dQ (.int b)=(M.pure b):=rfl
def sM:eg (.bool b)=(M.pure b):=rfl
def pg:srcOf (.ref i)=(M.bind (bO (.ref i)) λ_=>M.pure (.live i)):=rfl
def DG:srcOf (.ay vs)=(M.pure (.fix vs)):=rfl
def Me:srcOf (.str x)=(if x.cps.all (· < 128) then M.pure (.fix (kZ x)) else M.fail):=rfl
def qW:ea (.fix vs) k=(M.pure vs[k]?):=rfl
def jz:ea (.live i) k=(M.bind (bO (.ref i)) λa=>M.pure a[k]?):=rfl
def C2:fh (.fix vs)=(M.pure vs.length):=rfl
def pa:fh (.live i)=(M.bind (bO (.ref i)) λa=>M.pure a.length):=rfl
def rj:cy [] u1=(none):=rfl
def rk:cy (x::u1) 0=(x):=rfl
def rm:cy (a::r) (n+1)=(cy r n):=rfl
def y5:cq [] u1 u2=([]):=rfl
def y9:cq (a::r) 0 v=(some v::r):=rfl
def za:cq (x::r) (n+1) v=(x::cq r n v):=rfl
def lY:V.deep (.ay vs)=(V.fj vs+1):=rfl
def lT:V.fj []=(0):=rfl
def lU:V.fj (v::r)=(max v.deep (V.fj r)):=rfl
def ph:cp (.ok (.ret v) u1 U)=(.ok v U):=rfl
def pj:cp (.ok .next u1 U)=(.ok .none U):=rfl
def pk:cp (.aF c u1 U)=(.aF c U):=rfl
def pn:cp .bad=(.bad):=rfl
def pq:binop .Add (.int x) (.int y)=M.pure (.int (x+y)):=rfl
def pw:binop .Sub (.int x) (.int y)=M.pure (.int (x-y)):=rfl
def j4:binop .Mult (.int x) (.int y)=(if small x||small y then M.pure (.int (x*y)) else M.fail):=rfl
def pz:binop .Mod (.int x) (.int y)=(if y=0 then M.fail else M.pure (.int (x.fmod y))):=rfl
def pA:binop .FloorDiv (.int x) (.int y)=(if y=0∨¬ y.natAbs<1073741824 then M.fail else M.pure (.int (x.fdiv y))):=rfl
def pB:binop .Pow (.int x) (.int y)=(if small x/\0<=y/\y<=1000 then M.pure (.int (x^y.toNat)) else M.fail):=rfl
def pC:binop .Add (.str x) (.str y)=(if x.length+y.length<=aJ then M.pure (.str (x++y)) else M.fail):=rfl
def pD:binop .Add (.ay x) (.ay y)=(if x.length+y.length<=aJ then M.pure (.ay (x++y)) else M.fail):=rfl
def pE:binop .Add (.ref i) (.ref j)=(M.bind (bO (.ref i)) λx=>M.bind (bO (.ref j)) λy=>if x.length+y.length<=aJ then dB (.af (x++y)) else M.fail):=rfl
def yT:oG C (.cons e .nil) L=M.bind (aj C e L) λv=>M.bind (eg v) λb=>M.pure (.bool b):=rfl
def vB:oG C (.cons e (.cons e2 r)) L=M.bind (aj C e L) λv=>M.bind (eg v) λb=>if b then oG C (.cons e2 r) L else M.pure (.bool false):=rfl
def Ni:oS C (.cons e .nil) L=M.bind (aj C e L) λv=>M.bind (eg v) λb=>M.pure (.bool b):=rfl
def ED:oS C (.cons e (.cons e2 r)) L=M.bind (aj C e L) λv=>M.bind (eg v) λb=>if b then M.pure (.bool true) else oS C (.cons e2 r) L:=rfl
def lV:V.deep .none=0:=rfl
def lW:V.deep (.int i)=0:=rfl
def lX:V.deep (.str s)=0:=rfl
end
set_option backward.match.sparseCases true
end Qh
set_option tactic.hygienic true
namespace Qh
open PySem PyProof.Rows
structure Gd where
 prog:Program
 w:World
 hb:Heap
 sA:Addr
 script:List Int
 cA:Nat->Addr
 P:Prog
 fN:Nat->Str
 fA:Nat->Addr
 fq:Nat->Bool
 gN:Nat->Str
 res:List Addr
abbrev Gd.re(G:Gd)(R:List Addr):Gd:={G with res:=R}
@[reducible]def Gd.mo(G:Gd):=model G.prog G.w
mutual
inductive Rel(G:Gd)(J:List Addr)(h:Heap):Value->V->Prop
|none:Rel G J h .none .none
|bool (b:Bool):Rel G J h (.bool b) (.bool b)
|int (i:Int) (t:Tok):Rel G J h (.int i t) (.int i)
|str (x:Str) (t:Tok):Rel G J h (.str x t) (.str x)
|ay {a:Addr}{xs:List Value}{vs:List V}:IsTup h a xs.toArray->bL G J h xs vs->a∉G.res->Rel G J h (.ref a) (.ay vs)
|ref {a:Addr}{i:Nat}:J[i]?=some a->Rel G J h (.ref a) (.ref i)
|cF:Rel G J h (.ref G.sA) .cF
inductive bL(G:Gd)(J:List Addr)(h:Heap):List Value->List V->Prop
|nil:bL G J h [] []
|cons {x:Value}{v:V}{xs:List Value}{vs:List V}:Rel G J h x v->bL G J h xs vs->bL G J h (x::xs) (v::vs)
end
section
variable{G:Gd}{J:List Addr}{h:Heap}{x:Value}{X:Prop}
def Td(r:Rel G J h x .none)(k:x=.none->X):X:=by cases r;exact k rfl
def Te(r:Rel G J h x (.bool b))(k:x=.bool b->X):X:=by cases r;exact k rfl
def t6(r:Rel G J h x (.int i))(k:∀t,x=.int i t->X):X:=by cases r;exact k _ rfl
def mz(r:Rel G J h x (.str y))(k:∀t,x=.str y t->X):X:=by cases r;exact k _ rfl
def Tf(r:Rel G J h x .cF)(k:x=.ref G.sA->X):X:=by cases r;exact k rfl
def Q7(r:bL G J h xs [])(k:xs=[]->X):X:=by cases r;exact k rfl
section
variable{mo:Value->Prop}
def qv(r:Rel G J h x (.bool b))(k:mo (.bool b)):mo x:=Te r λe=>e▸k
def eY(r:Rel G J h x (.int i))(k:∀t,mo (.int i t)):mo x:=t6 r λt e=>e▸k t
def lq(r:Rel G J h x (.str y))(k:∀t,mo (.str y t)):mo x:=mz r λt e=>e▸k t
def Ih(r:Rel G J h x .cF)(k:mo (.ref G.sA)):mo x:=Tf r λe=>e▸k
end
def Tg{mo:List Value->Prop}(r:bL G J h xs [])(k:mo []):mo xs:=Q7 r λe=>e▸k
end
abbrev Go(C a b:Addr)(o:Obj):Prop:=o.cls=.ref C/\(∀c,o.data≠.cls c)/\o.dict=some b/\b≠a
abbrev jJ(v:Value)(y:Str):Option Value:=if y="many" then some v else none
abbrev jj(G:Gd)(J:List Addr)(h:Heap)(a:Addr):O->Prop
|.af vs=>∃xs:List Value,h.PlainList a xs.toArray/\bL G J h xs vs
|.az es=>∃kvs:List (Str×Value),h.DictOf (strKind G.prog G.w) a kvs/\kvs.map (·.1)=es.map (·.1)/\bL G J h (kvs.map (·.2)) (es.map (·.2))
|.inst c d=>∃b o,J[d]?=some b/\h.get? a=some o/\Go (G.cA 0) a b o
|.dM n=>∃t,h.Ns1 a (jJ (.int n t))
structure aI(G:Gd)(J:List Addr)(U:H)(h:Heap):Prop where
 base:∀b o,G.hb.get? b=some o->h.get? b=some o
 len:J.length=U.length
 nodup:J.Nodup
 new:∀a∈J,G.hb.get? a=none
 rep:∀(i:Nat)(a:Addr)(o:O),J[i]?=some a->U[i]?=some o->jj G J h a o
 lr:∀a∈G.res,∃xs,IsTup h a xs
 mG:∀a∈G.res,G.hb.get? a=none
structure Step(J:List Addr)(h:Heap)(aA:List Addr)(h':Heap):Prop where
 pre:∃t,aA=J++t
 fresh:∀a∈aA,a∈J∨h.get? a=none
 keep:∀a o,h.get? a=some o->a∉J->h'.get? a=some o
def Step.refl(J:List Addr)(h:Heap):Step J h J h:=#[#[[],by simp],λ_ a=>.inl a,λ_ _ e _=>e]
def Step.trans(x:Step J h aL aC)(y:Step aL aC eh bt):Step J h eh bt:=by
 refine cb (x.pre) λt d=>?_;subst d;obtain⟨f,rfl⟩:=y.pre;refine#[#[t++f,by simp],λa g=>?_,λa o e b=>?_]
 ·rcases y.fresh a g with q|q
  ·exact x.fresh a q
  ·by_cases c:a∈J
   ·exact .inl c
   ·refine .inr ?_;cases e:h.get? a with
    |none=>rfl
    |some o=>(replace q:=(x.keep a o e c)▸q);exact ez q
 ·refine y.keep a o (x.keep a o e b) λq=>?_;rcases x.fresh a q with q|q
  ·exact b q
  ·(replace q:=e▸q);exact ez q
def Step.get{J b:List Addr}{h c:Heap}(x:Step J h b c){i:Nat}(e:J[i]?=some a):b[i]?=some a:=by
 refine cb (x.pre) λt d=>?_;clear x;subst d;rw[List.getElem?_append_left]
 ·exact e
 ·exact(List.getElem?_eq_some_iff.mp e).1
section
variable{G:Gd}{J aA:List Addr}{U ah:H}{h h':Heap}
def bL.length(r:bL G J h xs vs):xs.length=vs.length:=by
 induction xs generalizing vs with
|nil=>cases r;rfl
|cons x xs a=>cases r with|cons _ r=>simp[a r]
def bL.get{xs:List Value}{vs:List V}(r:bL G J h xs vs){k:Nat}(e:vs[k]?=some v):∃x,xs[k]?=some x/\Rel G J h x v:=by
 induction xs generalizing vs k with
|nil=>cases r;simp at e
|cons x xs a=>
  cases r with
  |cons b r=>
   cases k with
   |zero=>simp at e;(clear a;subst e);exact#[x,rfl,b]
   |succ k=>simp at e;simpa using a r e
def bL.append(r:bL G J h xs vs)(q:bL G J h ys ws):bL G J h (xs++ys) (vs++ws):=by
 induction xs generalizing vs with
|nil=>cases r;exact q
|cons x xs a=>cases r with|cons b r=>exact .cons b (a r)
def bL.take(r:bL G J h xs vs)(k:Nat):bL G J h (xs.take k) (vs.take k):=by
 induction xs generalizing vs k with
|nil=>cases r;simp;exact .nil
|cons x xs a=>
  cases r with
  |cons b r=>cases k with
   |zero=>exact .nil
   |succ k=>exact .cons b (a r k)
def bL.drop(r:bL G J h xs vs)(k:Nat):bL G J h (xs.drop k) (vs.drop k):=by
 induction xs generalizing vs k with
|nil=>cases r;simp;exact .nil
|cons x xs a=>
  cases r with
  |cons b r=>cases k with
   |zero=>exact .cons b r
   |succ k=>exact a r k
def bL.set(r:bL G J h xs vs)(k:Nat)(a:Rel G J h x v):bL G J h (xs.set k x) (vs.set k v):=by
 induction xs generalizing vs k with
|nil=>cases r;exact .nil
|cons y xs b=>
  cases r with
  |cons c r=>cases k with
   |zero=>exact .cons a r
   |succ k=>exact .cons c (b r k)
def Rel.mono(hk:∀a xs,IsTup h a xs->IsTup h' a xs)(b:∀(i:Nat)(a:Addr),J[i]?=some a->aA[i]?=some a)(r:Rel G J h x v):Rel G aA h' x v:=
 Rel.rec .none .bool .int .str (λe _ n r=>.ay (hk _ _ e) r n) (λe=>.ref (b _ _ e)) .cF .nil (λ_ _=>.cons) r
def bL.mono(hk:∀a xs,IsTup h a xs->IsTup h' a xs)(b:∀(i:Nat)(a:Addr),J[i]?=some a->aA[i]?=some a)(r:bL G J h xs vs):bL G aA h' xs vs:=
 bL.rec .none .bool .int .str (λe _ n r=>.ay (hk _ _ e) r n) (λe=>.ref (b _ _ e)) .cF .nil (λ_ _=>.cons) r
def aI.at(S:aI G J U h){i:Nat}(e:J[i]?=some a):∃o,U[i]?=some o/\jj G J h a o:=by
 have b:i<U.length:=by(refine(S.len)▸?_);exact(List.getElem?_eq_some_iff.mp e).1
 exact#[U[i],List.getElem?_eq_getElem b,S.rep i a _ e (List.getElem?_eq_getElem b)]
def jj.cls(r:jj G J h a o):∃b,h.get? a=some b/\(b.cls=.type "list"∨b.cls=.type "dict"∨(∃C,b.cls=.ref C)∨∃es f,b.data=.dict es f):=by
 cases o with
|af vs=>obtain⟨i,⟨n,e⟩,_⟩:=r;exact#[_,e,.inl rfl]
|az es=>obtain⟨g,⟨b,_,_,e,c,_⟩,_⟩:=r;exact#[b,e,.inr (.inl c.1)]
|inst c d=>obtain⟨j,o,_,e,q,_⟩:=r;exact#[_,e,.inr (.inr (.inl #[_,q]))]
|dM n=>obtain⟨t,b,es,f,e,d,_⟩:=r;exact#[b,e,.inr (.inr (.inr #[es,f,d]))]
def aI.mem(S:aI G J U h){a:Addr}(c:a∈J):∃b,h.get? a=some b/\(b.cls=.type "list"∨b.cls=.type "dict"∨(∃C,b.cls=.ref C)∨∃es d,b.data=.dict es d):=by obtain⟨i,e,rfl⟩:=List.getElem_of_mem c;exact aQ (S.at (List.getElem?_eq_getElem e)) λo _ r=>r.cls
def aI.kr(S:aI G J U h)(e:h.get? a=some ob)(c:ob.cls=.type T)(f:T≠"list")(g:T≠"dict")(i:∀es d,ob.data≠.dict es d):a∉J:=λj=>by
 refine aQ (S.mem j) λl b c'=>?_;(replace b:=e▸b);(refine d7 b λk=>?_;(clear b;subst k));replace c':=c▸c';rcases c' with q|q|⟨C,q⟩|⟨es,d,q⟩
 ·injection q with q;exact f q
 ·injection q with q;exact g q
 ·cases q
 ·exact i _ _ q
def aI.ay(S:aI G J U h)(e:IsTup h a xs):a∉J:=by obtain⟨o,e,c,n,b⟩:=e;exact S.kr e c ∅ ∅ λd f q=>by(replace q:=b▸q);cases q
def Step.ay(x:Step J h aA h')(S:aI G J U h):∀a xs,IsTup h a xs->IsTup h' a xs:=λa xs e=>by
 have b:=S.ay e;exact aQ (e) λo e c=>#[o,x.keep a o e b,c]
def Rel.step{v:Value}{u:V}(r:Rel G J h v u)(x:Step J h aA h')(S:aI G J U h):Rel G aA h' v u:=r.mono (x.ay S) λ_ _ e=>x.get e
def bL.step{v:List Value}{u:List V}(r:bL G J h v u)(x:Step J h aA h')(S:aI G J U h):bL G aA h' v u:=r.mono (x.ay S) λ_ _ e=>x.get e
def aI.fresh(S:aI G J U h)(b:h.objs.size<=a):a∉J:=λq=>by
 exact aQ (S.mem q) λc e _=>Nat.lt_irrefl _ (Nat.lt_of_lt_of_le (Heap.lt_size e) b)
def aI.lt(S:aI G J U h)(q:a∈J):a<h.objs.size:=by exact aQ (S.mem q) λb e _=>Heap.lt_size e
def aI.Q8(S:aI G J U h)(b:h.objs.size<=a):a∉G.res:=λq=>by
 exact bl (S.lr a q) λ_ o e _=>Nat.lt_irrefl _ (Nat.lt_of_lt_of_le (Heap.lt_size e) b)
def jj.keeps(r:jj G J h a o)(b:∀f,h.get? a=some f->h'.get? a=some f)(hk:∀a xs,IsTup h a xs->IsTup h' a xs)(g:∀(i:Nat)(a:Addr),J[i]?=some a->aA[i]?=some a):jj G aA h' a o:=by
 cases o with
|af vs=>obtain⟨xs,⟨n,e⟩,q⟩:=r;exact#[xs,#[n,b _ e],q.mono hk g]
|az es=>obtain⟨j,⟨f,x,y,e,c⟩,q,k⟩:=r;exact#[j,#[f,x,y,b _ e,c],q,k.mono hk g]
|inst c d=>obtain⟨l,o,q,e,z⟩:=r;exact#[l,o,g _ _ q,b _ e,z]
|dM n=>obtain⟨t,e⟩:=r;exact#[t,e.at b]
def aI.grow(S:aI G J U h)(hk:∀b o,h.get? b=some o->h'.get? b=some o):aI G J U h':=
 #[λb o e=>hk _ _ (S.base b o e),S.len,S.nodup,S.new,λi a o f g=>(S.rep i a o f g).keeps (λ_ e=>hk _ _ e) (λa d #[o,e,c]=>#[o,hk _ _ e,c]) λ_ _ e=>e,λa j=>let #[d,o,e,c]:=S.lr a j;#[d,o,hk _ _ e,c],S.mG]
def Step.grow(S:aI G J U h)(hk:∀b o,h.get? b=some o->h'.get? b=some o):Step J h J h':=#[#[[],by simp],λ_ a=>.inl a,λ_ _ e _=>hk _ _ e]
def aI.alloc(S:aI G J U h)(hk:∀b o,h.get? b=some o->h'.get? b=some o)(d:h.get? a=none)(l:jj G (J++[a]) h' a o):
  aI G (J++[a]) (U++[o]) h'/\Step J h (J++[a]) h'/\(J++[a])[U.length]?=some a:=by
 refine#[#[λb o e=>hk _ _ (S.base b o e),by simp[S.len],List.nodup_append.mpr #[S.nodup,by simp,λx t y p=>?_],λb hb=>?_,λi b r g f=>?_,λa d=>let #[s,o,e,c]:=S.lr a d;#[s,o,hk _ _ e,c],S.mG],#[#[[a],rfl],λb hb=>?_,λ_ _ e _=>hk _ _ e],?_]
 ·simp at p;(clear l;subst p);intro q;subst q;exact(λq=>by obtain⟨r,e,_⟩:=S.mem q;(replace e:=d▸e);exact bR e) t
 ·rcases List.mem_append.mp hb with q|q
  ·exact S.new b q
  ·simp at q;(clear l;(clear hb;subst q));cases e:G.hb.get? b with
   |none=>rfl
   |some o=>(replace d:=(S.base _ _ e)▸d);exact ez d
 ·rcases Nat.lt_or_ge i J.length with k|k
  ·rw[List.getElem?_append_left k] at g;rw[List.getElem?_append_left (by(refine(S.len)▸?_);exact k)] at f;refine(S.rep i b r g f).keeps (λ_ e=>hk _ _ e) (λa s #[o,e,c]=>#[o,hk _ _ e,c]) λj c e=>?_;rw[List.getElem?_append_left (List.getElem?_eq_some_iff.mp e).1];exact e
  ·have m:i=J.length:=by
    have:=(List.getElem?_eq_some_iff.mp g).1;simp at this;exact cm (aM E9 rfl this) (aM vX rfl k)
   clear k;subst m;simp at g;(clear d;subst g);(replace f:=(S.len)▸f);simp at f;subst f;exact l
 ·rcases List.mem_append.mp hb with q|q
  ·exact .inl q
  ·simp at q;(clear hb l;subst q);exact .inr d
 ·(refine(S.len)▸?_);simp
def aI.turn(S:aI G J U h)(k:J[i]?=some a)(hk:∀b o,b≠a->h.get? b=some o->h'.get? b=some o)(s:jj G J h' a o):
  aI G J (U.set i o) h'/\Step J h J h':=by
 have p:a∈J:=List.mem_of_getElem? k;have m:∀b d,G.hb.get? b=some d->b≠a:=λb d e q=>by
  (clear s hk k;subst q);(replace e:=(S.new _ p)▸e);exact bR e
 have f:∀b xs,IsTup h b xs->IsTup h' b xs:=λb xs t=>by
  have u:=S.ay t;exact aQ (t) λd e c=>#[d,hk b d (λq=>u (q▸p)) e,c]
 refine#[#[λb d e=>hk b d (m b d e) (S.base b d e),by simp[S.len],S.nodup,S.new,λj b d l r=>?_,λb hb=>let #[xs,t]:=S.lr b hb;#[xs,f _ _ t],S.mG],#[#[[],by simp],λ_ q=>.inl q,λb d e u=>hk b d (λq=>u (q▸p)) e]]
 by_cases g:i=j
 ·subst g;(replace l:=k▸l);(refine d7 l λv=>?_;(clear l;subst v));have:i<U.length:=by(refine(S.len)▸?_);exact(List.getElem?_eq_some_iff.mp k).1
  rw[List.getElem?_set_self this] at r;(refine d7 r λv=>?_;subst v);exact s
 ·rw[List.getElem?_set_ne g] at r;have w:b≠a:=λq=>by
   clear m p s hk;subst q;exact g ((List.getElem?_inj ((List.getElem?_eq_some_iff.mp k).1) S.nodup).mp (k.trans l.symm))
  exact(S.rep j b d l r).keeps (λx e=>hk b x w e) f λ_ _ e=>e
end
end Qh
set_option tactic.hygienic false
set_option tactic.hygienic true
namespace Qh
open PySem PyProof.Rows
section
variable{G:Gd}{A:Around}{E:bN}{s:Shared}{J aA:List Addr}{U ah:H}
abbrev aR{α d:Type}(G:Gd)(R:List Addr->Heap->d->α->Prop)(r:Res α)(J:List Addr)(s:Shared)(Q:d->Shared->Prop):Prop:=
 match r with
|.ok a ah=>∀b c tk aA,Step J s.heap aA c->aI G aA ah c->R aA c b a->Q b {s with heap:=c,toks:=tk}
|_=>False
@[reducible]def PV(G:Gd)(r:Res V)(J:List Addr)(s:Shared)(Q:bN):Prop:=aR G (Rel G) r J s Q
@[reducible]def PL(G:Gd)(r:Res (List V))(J:List Addr)(s:Shared)(Q:List Value->Shared->Prop):Prop:=aR G (bL G) r J s Q
@[reducible]def qH{α:Type}(_:List Addr)(_:Heap)(b a:α):Prop:=b=a
@[reducible]def fF(_:List Addr)(_:Heap)(b:Value)(a:Bool):Prop:=b=.bool a
@[reducible]def PB(G:Gd)(r:Res Bool)(J:List Addr)(s:Shared)(Q:Bool->Shared->Prop):Prop:=aR G qH r J s Q
@[reducible]def qI(G:Gd)(r:Res Bool)(J:List Addr)(s:Shared)(Q:bN):Prop:=aR G fF r J s Q
@[reducible]def PU(G:Gd)(r:Res Unit)(J:List Addr)(s:Shared)(Q:Unit->Shared->Prop):Prop:=aR G (λ_ _ _ _=>True) r J s Q
section
variable{α β γ δ:Type}{R:List Addr->Heap->β->α->Prop}{R':List Addr->Heap->δ->γ->Prop}{Q:β->Shared->Prop}
def aR.BF{α β:Type}{G:Gd}{R:List Addr->Heap->β->α->Prop}{r:Res α}{J:List Addr}{s:Shared}{Q:β->Shared->Prop}{X:Prop}(h:aR G R r J s Q)(k:∀a ah,r=.ok a ah->aR G R (.ok a ah) J s Q->X):X:=by
 cases r with
|ok a ah=>exact k a ah rfl h
|aF c ah=>exact h.elim
|bad=>exact h.elim
def aR.bind{m:M γ}{f:γ->M α}(h:aR G R (M.bind m f U) J s Q):∃a aw,m U=.ok a aw/\aR G R (f a aw) J s Q:=by
 unfold M.bind at h
 split at h
 ·rename_i a ah e;exact#[a,ah,e,h]
 ·exact h.elim
 ·exact h.elim
def aR.step{r:Res α}{d:Heap}{tk:Nat}{e:List Addr}(h:aR G R r J s Q)(x:Step J s.heap e d):aR G R r e {s with heap:=d,toks:=tk} Q:=by
 cases r with
|ok a ah=>exact λb f g aA y S r=>h b f g aA (x.trans y) S r
|aF c ah=>exact h
|bad=>exact h
def aR.here{a:α}{b:β}{tk:Nat}(h:aR G R (.ok a U) J s Q)(S:aI G J U s.heap)(r:R J s.heap b a):Q b {s with toks:=tk}:=
 h b s.heap tk J (Step.refl _ _) S r
def aR.cG{a:α}{b:β}(h:aR G R (.ok a U) J s Q)(S:aI G J U s.heap)(r:R J s.heap b a):Q b s:=h.here S r
def aR.grown{a:α}{b:β}{d:Heap}{tk:Nat}(h:aR G R (.ok a U) J s Q)(S:aI G J U s.heap)(hk:∀c o,s.heap.get? c=some o->d.get? c=some o)(r:R J d b a):Q b {s with heap:=d,toks:=tk}:=
 h b d tk J (Step.grow S hk) (S.grow hk) r
def aR.dD{o:Option α}(h:aR G R (Qh.dD o U) J s Q):∃a,o=some a/\aR G R (.ok a U) J s Q:=by
 cases o with
|none=>exact h.elim
|some a=>exact#[a,rfl,h]
def aR.ite{c:Prop}[Decidable c]{m:M α}(h:aR G R ((if c then m else M.fail) U) J s Q):c/\aR G R (m U) J s Q:=by
 by_cases a:c
 ·rw[if_pos a] at h;exact#[a,h]
 ·rw[if_neg a] at h;exact h.elim
def aR.Ii{c:Prop}[Decidable c]{m:M α}(h:aR G R ((if c then M.fail else m) U) J s Q):¬ c/\aR G R (m U) J s Q:=by
 by_cases a:c
 ·rw[if_pos a] at h;exact h.elim
 ·rw[if_neg a] at h;exact#[a,h]
def aR.mono{r:Res α}{d:β->Shared->Prop}(h:aR G R r J s Q)(e:∀b s',Q b s'->d b s'):aR G R r J s d:=by
 cases r with
|ok a ah=>exact λb f g aA y S r=>e _ _ (h b f g aA y S r)
|aF c ah=>exact h
|bad=>exact h
end
def j8{i:Nat}{o:O}{aw:H}(e:cH i U=.ok o aw):aw=U/\U[i]?=some o:=by
 unfold cH at e
 split at e
 ·rename_i o' h;(apply fO e);exact#[rfl,h]
 ·exact dc e
def eJ{α β:Type}{m:M α}{f:α->M β}{b:β}{bP:H}(e:M.bind m f U=.ok b bP):∃a aw,m U=.ok a aw/\f a aw=.ok b bP:=by
 unfold M.bind at e
 split at e
 ·rename_i a ah h;exact#[a,ah,h,e]
 ·exact U5 e
 ·exact dc e
def eT{v:V}{vs:List V}{f:H}(e:bO v U=.ok vs f):∃i,v=.ref i/\f=U/\U[i]?=some (.af vs):=by
 cases v with
|ref i=>
  refine bl (eJ e) λo ah b a=>aX (j8 b) λg b=>?_;clear e eT;subst g;cases o with
  |af ws=>(apply fO a);exact#[i,rfl,rfl,b]
  |az es=>exact dc a
  |inst c d=>exact dc a
  |dM n=>exact dc a
|_=>exact dc e
def j5{v:V}{i:Int}{a:H}(e:dQ v U=.ok i a):v=.int i/\a=U:=by cases v<;>first|((first|exact dc e|(apply fO e)|cases e);exact#[rfl,rfl])|exact dc e
def sV{v:V}{i:Bool}{a:H}(e:eg v U=.ok i a):v=.bool i/\a=U:=by cases v<;>first|((first|exact dc e|(apply fO e)|cases e);exact#[rfl,rfl])|exact dc e
def EE{v:V}{i:Str}{a:H}(e:Hf v U=.ok i a):v=.str i/\a=U:=by cases v<;>first|((first|exact dc e|(apply fO e)|cases e);exact#[rfl,rfl])|exact dc e
def aI.list(S:aI G J U s.heap){i:Nat}{vs:List V}(e:U[i]?=some (.af vs)){x:Value}(r:Rel G J s.heap x (.ref i)):
  ∃a xs,x=.ref a/\J[i]?=some a/\s.heap.IsList a xs.toArray/\bL G J s.heap xs vs:=by
 cases r with
|ref b=>
  obtain⟨xs,c,d⟩:=S.rep _ _ _ b e;exact#[_,xs,rfl,b,c.isList,d]
def aI.Ay(S:aI G J U s.heap){i:Nat}{vs:List V}(e:U[i]?=some (.af vs)){x:Value}(r:Rel G J s.heap x (.ref i)):
  ∃a xs,x=.ref a/\J[i]?=some a/\s.heap.PlainList a xs.toArray/\bL G J s.heap xs vs:=by
 cases r with
|ref b=>
  obtain⟨xs,c,d⟩:=S.rep _ _ _ b e;exact#[_,xs,rfl,b,c,d]
def aI.dict(S:aI G J U s.heap){i:Nat}{es:List (Str×V)}(e:U[i]?=some (.az es)){x:Value}(r:Rel G J s.heap x (.ref i)):
  ∃a kvs,x=.ref a/\J[i]?=some a/\s.heap.DictOf (strKind G.prog G.w) a kvs/\kvs.map (·.1)=es.map (·.1)/\bL G J s.heap (kvs.map (·.2)) (es.map (·.2)):=by
 cases r with
|ref b=>
  exact aQ (S.rep _ _ _ b e) λkvs c d=>#[_,kvs,rfl,b,c,d]
def aR.newList{vs:List V}{xs:List Value}{d:Heap}{a:Addr}{tk:Nat}{Q:bN}(h:PV G (dB (.af vs) U) J s Q)(S:aI G J U s.heap)(hk:∀c o,s.heap.get? c=some o->d.get? c=some o)(f:s.heap.objs.size<=a)(g:d.PlainList a xs.toArray)(r:bL G J s.heap xs vs):Q (.ref a) {s with heap:=d,toks:=tk}:=by exact g8 (S.alloc hk (Heap.get?_none_of_le f) (o:=.af vs) #[xs,g,r.mono (λb l #[o,e,c]=>#[o,hk _ _ e,c]) λi b e=>by rw[List.getElem?_append_left (List.getElem?_eq_some_iff.mp e).1];exact e]) λj st k=>h (.ref a) d tk _ st j (.ref k)
end
end Qh
set_option tactic.hygienic false
namespace Qh
open PySem PyProof.Rows
section
variable{G:Gd}{A:Around}{E:bN}{s:Shared}{J aA:List Addr}{U ah:H}
def iC(h:n<=aJ):n<=sizeLine:=by
 have:aJ<=sizeLine:=by decide
 exact bD vY rfl h this
def K8(h:small i=true):i.natAbs<2^64:=by
 unfold small at h;simp only[Bool.and_eq_true,decide_eq_true_eq] at h
 lia
def C3(h:small i=true):Builtin.Int.intBits i<=64:=by unfold small at h;simp only[Bool.and_eq_true,decide_eq_true_eq] at h;exact intBits_le_64 h.1 h.2
def gE{h:Heap}:∀c a,h.get? c=some a->(h.push o).get? c=some a:=λ_ _ e=>Heap.get?_push_of_some _ e
def aR.z0{vs:List V}{xs:List Value}(h:PV G (.ok (.ay vs) U) J s Q)(S:aI G J U s.heap)(r:bL G J s.heap xs vs):
  Q (.ref s.heap.objs.size) {s with heap:=s.heap.push {cls:=.type "tuple",data:=.seq xs.toArray},toks:=tk}:=
 h.grown S gE (.ay #[_,Heap.get?_push_size _ rfl,rfl,_,rfl] (r.mono (λb a #[o,e,c]=>#[o,gE _ _ e,c]) λ_ _ e=>e) (S.Q8 (aU _)))
def aR.z5{vs:List V}{xs:List Value}(h:PV G (dB (.af vs) U) J s Q)(S:aI G J U s.heap)(r:bL G J s.heap xs vs):
  Q (.ref s.heap.objs.size) {s with heap:=s.heap.push {cls:=.type "list",data:=.seq xs.toArray},toks:=tk}:=
 h.newList S gE (aU _) #[0,Heap.get?_push_size _ rfl] r
def CO(S:aI G J U s.heap)(w:Rel G J s.heap x (.ref i))(z:Rel G J s.heap y (.ref j))(h:PV G (binop .Add (.ref i) (.ref j) U) J s Q):wpAny G.mo A (binaryOp .Add x y) Q E s:=by
 refine bl (aR.bind h) λvs T l B=>?_;clear h;refine ct (eT l) λi' q c l=>?_;clear CO;subst c;refine jt q λm=>?_;subst m;refine bl (aR.bind B) λws T o X=>?_;clear B;refine ct (eT o) λj' q c o=>?_;subst c;refine jt q λm=>?_;subst m;refine bB λXx Y=>?_;obtain⟨p,h⟩:=aR.ite X;refine fY (S.list l w) λa g c _ Z C=>?_;clear w;subst c;refine fY (S.list o z) λb k c _ hb D=>?_;clear z;subst c;obtain⟨⟨cls,dd,I,sl⟩,K,L,n,P⟩:=id Z;obtain⟨⟨Us,r,t,u⟩,R,d,n2,f⟩:=id hb;refine Y ?_;simp only at L P d f;subst L P d f;have e:g.toArray++k.toArray=(g++k).toArray:=by simp
 have v:g.toArray.size+k.toArray.size<=sizeLine:=by
  (refine(List.size_toArray)▸?_;refine(List.size_toArray).symm▸?_;refine(C.length)▸?_;refine(D.length)▸?_);exact iC p
 refine concat_meets #[_,K,rfl] #[_,R,rfl] noFill_list_add seq_list_add PySem.F.slot_list_add PySem.F.entry_list_add (PySem.F.args_list_add_2 _ _) (list_addW a b g.toArray k.toArray n n2 dd r sl u v) #[K,R,?_];exact(e)▸h.z5 S (C.append D)
def LA(S:aI G J U s.heap)(I:Rel G J s.heap x (.ay vs))(K:Rel G J s.heap y (.ay ws))(h:PV G (binop .Add (.ay vs) (.ay ws) U) J s Q):wpAny G.mo A (binaryOp .Add x y) Q E s:=by
 refine aX (aR.ite h) λp h=>?_;cases I with
|@ay a xs _ q m na=>
 cases K with
|@ay b g _ hb o nb=>
 refine bB λP L=>?_;obtain⟨⟨cls,r,z,t⟩,i,B,n,C⟩:=id q;obtain⟨⟨R,c,u,d⟩,j,k,v,l⟩:=id hb;refine L ?_;simp only at B C k l;subst B C k l;have e:xs.toArray++g.toArray=(xs++g).toArray:=by simp
 have f:xs.toArray.size+g.toArray.size<=sizeLine:=by
  (refine(List.size_toArray)▸?_;refine(List.size_toArray).symm▸?_;refine(m.length)▸?_;refine(o.length)▸?_);exact iC p
 by_cases w:xs=[]
 ·clear f e q;subst w;cases m;exact concat_meets #[_,i,rfl] #[_,j,rfl] noFill_tuple_add seq_tuple_add PySem.F.slot_tuple_add PySem.F.entry_tuple_add (PySem.F.args_tuple_add_2 _ _)
   (tuple_addW0 a b _ g.toArray n v r c t d rfl) #[i,j,h.here S (.ay hb o nb)]
 ·by_cases D:g=[]
  ·clear f e hb;subst D;cases o;refine concat_meets #[_,i,rfl] #[_,j,rfl] noFill_tuple_add seq_tuple_add PySem.F.slot_tuple_add PySem.F.entry_tuple_add (PySem.F.args_tuple_add_2 _ _)
    (tuple_addW1 a b xs.toArray _ n v r c t d (by simpa using w) rfl) #[i,j,h.here S (.ay q ?_ na)]
   simpa using m
  ·refine concat_meets #[_,i,rfl] #[_,j,rfl] noFill_tuple_add seq_tuple_add PySem.F.slot_tuple_add PySem.F.entry_tuple_add (PySem.F.args_tuple_add_2 _ _)
    (tuple_addW2 a b xs.toArray g.toArray n v r c t d (by simpa using w) (by simpa using D) f) #[i,j,?_]
   exact(e)▸h.z0 S (m.append o)
def td(h:PV G (arith f u v U) J s Q):∃i j,u=.int i/\v=.int j/\PV G (f i j U) J s Q:=by
 cases u with
|int i=>cases v with
  |int j=>exact#[i,j,rfl,rfl,h]
  |_=>exact h.elim
|_=>exact h.elim
def OM(S:aI G J U s.heap)(a:Rel G J s.heap x u)(b:Rel G J s.heap y v)(h:PV G (A0 u v U) J s Q):wpAny G.mo A (binaryOp .Add x y) Q E s:=by
 cases u with
|int i=>cases v with
  |int j=>
   have h:PV G (M.pure (.int (i+j)) U) J s Q:=h;(apply eY a;intro _);(apply eY b;intro _);exact P.add_int (h.here S (.int _ _))
  |_=>exact h.elim
|str i=>cases v with
  |str j=>
   have h:PV G ((if i.length+j.length<=aJ then M.pure (.str (i++j)) else M.fail) U) J s Q:=h;(apply lq a;intro _);(apply lq b;intro _);exact aX (aR.ite h) λc h=>PyProof.Rows.add_str (λd e=>h.here S (.str _ _)) (iC c)
  |_=>exact h.elim
|ay i=>cases v with
  |ay j=>exact LA S a b h
  |_=>exact h.elim
|ref i=>cases v with
  |ref j=>exact CO S a b h
  |_=>exact h.elim
|_=>exact h.elim
def Nj(S:aI G J U s.heap)(b:Rel G J s.heap x u)(c:Rel G J s.heap y v)(h:PV G (binop op u v U) J s Q):wpAny G.mo A (binaryOp op x y) Q E s:=by
 cases op with
|Add=>exact OM S b c h
|Sub=>
  have zz:=td h;clear h;obtain⟨i,j,rfl,rfl,h⟩:=zz;(apply eY b;intro _);(apply eY c;intro _);exact P.sub_int (h.here S (.int _ _))
|Mult=>
  have zz:=td h;clear h;obtain⟨i,j,rfl,rfl,h⟩:=zz;(apply eY b;intro _);(apply eY c;intro _);refine aX (aR.ite h) λa h=>?_;rcases Bool.or_eq_true_iff.mp a with q|q
  ·exact P.mul_int (h.here S (.int _ _)) (.of_left (C3 q))
  ·exact P.mul_int (h.here S (.int _ _)) (.of_right (C3 q))
|Mod=>
  have zz:=td h;clear h;obtain⟨i,j,rfl,rfl,h⟩:=zz;(apply eY b;intro _);(apply eY c;intro _);exact aX (aR.Ii h) λa h=>mod_int' a (h.here S (.int _ _))
|FloorDiv=>
  have zz:=td h;clear h;obtain⟨i,j,rfl,rfl,h⟩:=zz;(apply eY b;intro _);(apply eY c;intro _);refine aX (aR.Ii h) λa h=>?_;simp only[not_or,Decidable.not_not] at a;exact PyProof.Rows.floordiv_int a.1 (h.here S (.int _ _)) (.inl (PyProof.noPylong_small a.2))
|Pow=>
  have zz:=td h;clear h;obtain⟨i,j,rfl,rfl,h⟩:=zz;(apply eY b;intro _);(apply eY c;intro _);exact aX (aR.ite h) λa h=>pow_int_small a.2.1 (bw 0x7247d078cc049049205a07bcc rfl a.2.2) (K8 a.1) (h.here S (.int _ _))
|_=>exact h.elim
def Q9(S:aI G J U s.heap)(a:Rel G J s.heap x (.int i))(h:PV G (.ok (.int (-i)) U) J s Q):wpAny G.mo A (unaryOp .USub x) Q E s:=by (apply eY a;intro _);exact P.neg_int (h.here S (.int _ _))
end
end Qh
set_option tactic.hygienic true
namespace Qh
open PySem PyProof.Rows
mutual
noncomputable def toD:V->PyData
|.int i=>.int i
|.str x=>.str x
|.ay vs=>.tuple (fH vs)
|_=>.none
noncomputable def fH:List V->List PyData
|[]=>[]
|v::r=>toD v::fH r
end
def j3(h:V.eB (v::r)=true):v.ca=true/\V.eB r=true:=Bool.and_eq_true_iff.mp h
def V.both{P:V->Prop}{Q:List V->Prop}(c:P .none)(ab:∀b,P (.bool b))(d:∀i,P (.int i))(e:∀s,P (.str s))(a:∀vs,Q vs->P (.ay vs))(f:∀i,P (.ref i))(g:P .cF)(h:Q [])(cs:∀v r,P v->Q r->Q (v::r)):(∀v,P v)/\(∀vs,Q vs):=
 #[V.rec c ab d e a f g h cs,V.rec_1 c ab d e a f g h cs]
section
variable{G:Gd}{A:Around}{E:bN}{s:Shared}{J aA:List Addr}{U ah:H}{h:Heap}
def Rel.reads(r:Rel G J h x v):v.ca=true->∃f,Reads h x (toD v) f:=
 Rel.rec (motive_1:=λx v _=>v.ca=true->∃f,Reads h x (toD v) f) (motive_2:=λj g _=>V.eB g=true->∃f,ReadsAll h j (fH g) f) (λ_=>#[_,.none]) (λb a=>ff a) (λi t _=>#[_,.int i t]) (λy t _=>#[_,.str y t])
  (λ#[o,e,c,n,d] _ _ k a=>(k a).elim λf q=>#[f,.tuple e c d q]) (λ_ a=>ff a) (λa=>ff a) (λ_=>#[_,.nil]) (λ_ _ l m a=>(l (j3 a).1).elim λ_ q=>(m (j3 a).2).elim λ_ p=>#[_,.cons q p]) r
def bL.reads(r:bL G J h j g):V.eB g=true->∃f,ReadsAll h j (fH g) f:=
 bL.rec (motive_1:=λx v _=>v.ca=true->∃f,Reads h x (toD v) f) (motive_2:=λj g _=>V.eB g=true->∃f,ReadsAll h j (fH g) f) (λ_=>#[_,.none]) (λb a=>ff a) (λi t _=>#[_,.int i t]) (λy t _=>#[_,.str y t])
  (λ#[o,e,c,n,d] _ _ k a=>(k a).elim λf q=>#[f,.tuple e c d q]) (λ_ a=>ff a) (λa=>ff a) (λ_=>#[_,.nil]) (λ_ _ l m a=>(l (j3 a).1).elim λ_ q=>(m (j3 a).2).elim λ_ p=>#[_,.cons q p]) r
def EF:(∀v:V,v.ca=true->(toD v).canLay0=true)/\(∀vs:List V,V.eB vs=true->PyData.canLayAll0 (fH vs)=true):=
 V.both (λ_=>rfl) (λ_ h=>ff h) (λ_ _=>rfl) (λ_ h=>h) (λ_ a h=>a h) (λ_ h=>ff h) (λh=>ff h) (λ_=>rfl) (λ_ _ b c h=>Bool.and_eq_true_iff.mpr #[b (j3 h).1,c (j3 h).2])
def vK:∀v:V,v.ca=true->(toD v).canLay0=true:=EF.1
def qY:∀vs:List V,V.eB vs=true->PyData.canLayAll0 (fH vs)=true:=EF.2
def zb:∀vs:List V,PyData.depthAll (fH vs)=V.fj vs:=
 (V.both (P:=λv=>(toD v).depth=v.deep) (Q:=λvs=>PyData.depthAll (fH vs)=V.fj vs) rfl (λ_=>rfl) (λ_=>rfl) (λ_=>rfl) (λ_ a=>congrArg (·+1) a) (λ_=>rfl) rfl rfl (λ_ _ b c=>(congrArg (max · _) b).trans (congrArg (max _ ·) c))).2
def EG:(∀a b:V,a.ca=true->b.ca=true->PyData.eqv (toD a) (toD b)=gu a b)/\(∀a b:List V,V.eB a=true->V.eB b=true->PyData.eqvAll (fH a) (fH b)=ji a b):=
 V.both (λb _ h=>by cases b<;>first|rfl|exact ff h) (λ_ _ h=>ff h) (λ_ b _ h=>by cases b<;>first|rfl|exact ff h) (λ_ b _ h=>by cases b<;>first|rfl|exact ff h)
  (λ_ d b h c=>by cases b<;>first|rfl|exact d _ h c|exact ff c) (λ_ _ h=>ff h) (λ_ h=>ff h) (λb _ _=>by cases b<;>rfl)
  (λ_ _ e f b h c=>by cases b with|nil=>rfl|cons b t=>exact(congrArg (·&&_) (e b (j3 h).1 (j3 c).1)).trans (congrArg (_&&·) (f t (j3 h).2 (j3 c).2)))
def Ra:∀a b:V,a.ca=true->b.ca=true->PyData.eqv (toD a) (toD b)=gu a b:=EG.1
def FE:∀a b:List V,V.eB a=true->V.eB b=true->PyData.eqvAll (fH a) (fH b)=ji a b:=EG.2
def yx(h:fR x y=true):V.eB x=true/\V.eB y=true/\V.fj x<=50/\V.fj y<=50:=by unfold fR at h;simp only[Bool.and_eq_true,decide_eq_true_eq] at h;exact#[h.1.1.1,h.1.1.2,h.1.2,h.2]
def vk(a:V.eB vs=true)(b:V.fj vs<=50):SeqAt.shaped (.tuple (fH vs))=true:=by unfold SeqAt.shaped;simp only[PyData.canLay0,PyData.depth,qY vs a,zb,Bool.true_and,decide_eq_true_eq];exact a7 Fa rfl b
def vh(a:V.eB vs=true)(b:V.fj vs<=50):SeqAt.shaped (.list (fH vs))=true:=by unfold SeqAt.shaped;simp only[PyData.canLay0,PyData.depth,qY vs a,zb,Bool.true_and,decide_eq_true_eq];exact a7 Fa rfl b
def Gp(p:A.units+64<cLine)(S:aI G J U s.heap)(t:Rel G J s.heap x u)(w:Rel G J s.heap y v){r:Bool}{C:H}(e:iM u v U=.ok r C)(h:qI G (.ok (r ^^ neg) C) J s Q):wpAny G.mo A (compareOp (if neg then .NotEq else .Eq) x y) Q E s:=by
 cases u with
|str _=>cases v with
  |str _=>
   refine eR e λc d=>?_;subst c;subst d;(refine mz t λ_ c=>?_;subst c);(refine mz w λ_ c=>?_;subst c);cases neg
   ·exact PyProof.Rows.eq_str (h.cG S (by simp[fF]))
   ·exact PyProof.Rows.ne_str (h.cG S (by simp[fF,bne]))
  |_=>exact dc e
|int _=>cases v with
  |int _=>
   refine eR e λc d=>?_;subst c;subst d;(refine t6 t λ_ c=>?_;subst c);(refine t6 w λ_ c=>?_;subst c);cases neg
   ·exact P.eq_int (h.cG S (by simp[fF]))
   ·exact P.ne_int (h.cG S (by simp[fF,bne]))
  |_=>exact dc e
|ay a=>cases v with
  |ay b=>
   replace e:(if fR a b then M.pure (ji a b) else M.fail) U=.ok r C:=e
   by_cases f:fR a b=true
   ·(replace e:=(if_pos f)▸e);(refine eR e λc d=>?_;subst c;subst d);refine jL (yx f) λf1 f2 g i=>?_;obtain⟨X,q1⟩:=t.reads (by simpa[V.ca] using f1);obtain⟨Y,q2⟩:=w.reads (by simpa[V.ca] using f2);have j:PyData.eqv (toD (.ay a)) (toD (.ay b))=ji a b:=by simp[toD,PyData.eqv,FE a b f1 f2]
    cases neg
    ·exact eq_dataH q1 q2 (by simpa[toD] using vk f1 g) (by simpa[toD] using vk f2 i) p (h.cG S (by simp[fF,j]))
    ·exact ne_dataH q1 q2 (by simpa[toD] using vk f1 g) (by simpa[toD] using vk f2 i) p (h.cG S (by simp[fF,j]))
   ·(replace e:=(if_neg f)▸e);exact dc e
  |_=>exact dc e
|ref _=>cases v with
  |ref _=>
   refine bl (eJ e) λz ah F I=>?_;clear e;refine ct (eT F) λi' q D Z=>?_;subst D;refine jt q λc=>?_;subst c;refine bl (eJ I) λB ah K e=>?_;clear I F;refine ct (eT K) λj' q D e2=>?_;subst D;refine jt q λc=>?_;subst c;clear K
   by_cases f:fR z B=true
   ·(replace e:=(if_pos f)▸e);(refine eR e λc d=>?_;subst c;subst d);refine bB λXx aH=>jL (yx f) λf1 f2 g i=>?_;obtain⟨a,xs,rfl,_,⟨o,L,k,n,R⟩,r1⟩:=S.list Z t;obtain⟨b,ys,rfl,_,⟨o',l,T,n',m⟩,r2⟩:=S.list e2 w;obtain⟨X,q1⟩:=r1.reads f1;obtain⟨Y,q2⟩:=r2.reads f2;refine aH ?_;have j:PyData.eqv (.list (fH z)) (.list (fH B))=ji z B:=by simp[PyData.eqv,FE z B f1 f2]
    cases neg
    ·exact eq_dataH (.list L k R (by simpa using q1)) (.list l T m (by simpa using q2)) (vh f1 g) (vh f2 i) p (h.cG S (by simp[fF,j]))
    ·exact ne_dataH (.list L k R (by simpa using q1)) (.list l T m (by simpa using q2)) (vh f1 g) (vh f2 i) p (h.cG S (by simp[fF,j]))
   ·(replace e:=(if_neg f)▸e);exact dc e
  |_=>exact dc e
|_=>exact dc e
def bL.strs(r:bL G J h xs vs)(e:strsOf vs=some ys):StrsAre xs ys:=by
 induction xs generalizing vs ys with
|nil=>cases r;(apply fg e);exact .nil
|cons x xs ih=>
  cases r with
  |cons hx r=>
   cases hx<;>simp only[strsOf] at e<;>try exact bR e
   rename_i y t
   refine aQ (Option.map_eq_some_iff.mp e) λzs e1 aW=>?_;clear e;subst aW;exact .cons _ _ (ih r e1)
def ON(b:x.ca=true)(c:V.eB vs=true):((fH vs).any λy=>PyData.eqv y (toD x))=vs.any λy=>gu y x:=by
 induction vs with
|nil=>rfl
|cons v r d=>
  have a:=j3 c;simp[fH,Ra v x a.1 b,d a.2]
def Lh(e:among u vs U=.ok b aw):
  (∃k a,u=.str k/\strsOf vs=some a/\b=a.any (·==k)/\aw=U)∨(fR [u] vs=true/\b=(vs.any λy=>gu y u)/\aw=U):=by
 have fin:∀{m:M Bool},m=(if fR [u] vs then M.pure (vs.any λy=>gu y u) else M.fail)->m U=.ok b aw->fR [u] vs=true/\b=(vs.any λy=>gu y u)/\aw=U:=by
  intro m d e;subst d
  by_cases c:fR [u] vs=true
  ·(replace e:=(if_pos c)▸e);(apply fO e);exact#[c,rfl,rfl]
  ·(replace e:=(if_neg c)▸e);exact dc e
 cases hy:strsOf vs with
|none=>exact .inr (fin (by unfold among;(refine hy▸?_);(clear fin e;cases u)<;>rfl) e)
|some a=>
  cases u with
  |str k=>
   have:among (.str k) vs=M.pure (a.any (·==k)):=by unfold among;(refine hy▸?_;with_reducible rfl)
   (replace e:=this▸e);(apply fO e);exact .inl #[k,a,rfl,rfl,rfl,rfl]
  |none=>exact .inr (fin (by unfold among;(refine hy▸?_;with_reducible rfl)) e)
  |bool x=>exact .inr (fin (by unfold among;(refine hy▸?_;with_reducible rfl)) e)
  |int x=>exact .inr (fin (by unfold among;(refine hy▸?_;with_reducible rfl)) e)
  |ay x=>exact .inr (fin (by unfold among;(refine hy▸?_;with_reducible rfl)) e)
  |ref x=>exact .inr (fin (by unfold among;(refine hy▸?_;with_reducible rfl)) e)
  |cF=>exact .inr (fin (by unfold among;(refine hy▸?_;with_reducible rfl)) e)
def EH{neg isTup:Bool}{a:Addr}{x:Value}(t:A.units+64<cLine)(S:aI G J U s.heap)(m:Rel G J s.heap x u)(f:if isTup then IsTup s.heap a xs.toArray else s.heap.IsList a xs.toArray)(r:bL G J s.heap xs vs){Q:bN}{b:Bool}{p:H}(e:among u vs U=.ok b p)(h:qI G (.ok (b ^^ neg) p) J s Q):wpAny G.mo A (compareOp (if neg then .NotIn else .In) x (.ref a)) Q E s:=by
 rcases Lh e with ⟨k,y,rfl,v,rfl,rfl⟩|⟨w,rfl,rfl⟩
 ·(apply lq m;intro _);have q:=r.strs v;cases isTup<;>cases neg
  ·exact in_list_strs f q (h.cG S (by simp[fF]))
  ·exact notin_list_strs f q (h.cG S (by simp[fF]))
  ·exact in_tuple_strs f (by simpa using q) (h.cG S (by simp[fF]))
  ·exact notin_tuple_strs f (by simpa using q) (h.cG S (by simp[fF]))
 ··obtain⟨f1,f2,z,B⟩:=yx w;have j:u.ca=true:=by simpa[V.eB] using f1
   refine cb (m.reads j) λC q1=>cb (r.reads f2) λD q2=>?_;have l:=ON j f2;have c:A.units+1+min (PyData.depthAll (fH vs)) (toD u).depth<cLine:=by
    have:min (PyData.depthAll (fH vs)) (toD u).depth<=50:=by rw[zb];lia
    exact bD 0xe06104d06130124124124814e0610401e1305c8780d rfl t this
   cases isTup<;>cases neg
   ·obtain⟨o,g,d,n,i⟩:=f;exact SeqAt.in_list_reads (.list g d i (by simpa using q2)) q1 (qY _ f2) (vK _ j) c (h.cG S (by simp[fF,l]))
   ·obtain⟨o,g,d,n,i⟩:=f;exact SeqAt.notIn_list_reads (.list g d i (by simpa using q2)) q1 (qY _ f2) (vK _ j) c (h.cG S (by simp[fF,l]))
   ·obtain⟨o,g,d,n,i⟩:=f;exact SeqAt.in_tuple_reads (.tuple g d i (by simpa using q2)) q1 (qY _ f2) (vK _ j) c (h.cG S (by simp[fF,l]))
   ·obtain⟨o,g,d,n,i⟩:=f;exact SeqAt.notIn_tuple_reads (.tuple g d i (by simpa using q2)) q1 (qY _ f2) (vK _ j) c (h.cG S (by simp[fF,l]))
end
end Qh
set_option tactic.hygienic false
namespace Qh
open PySem PyProof.Rows
abbrev pK:List Str:=["len","int","str","sum","max","isinstance","list","tuple","dict","range","zip","bool"]
structure Rb(G:Gd)(N:Addr)(mN:Str->Option Value):Prop where
 cls:ClsAt G.hb (G.cA 0) N mN
 q1:mN "__setattr__"=none
 q2:mN "__getattribute__"=none
 q3:mN "__getattr__"=none
 q4:mN "many"=none
 meths:∀f fn,G.P.fns f=some fn->G.fq f=false->mN (G.fN f)=some (.ref (G.fA f))/\(∃o,G.hb.get? (G.fA f)=some o/\o.cls=.type "function")/\typeLookup (.type "object") (G.fN f)=pure none/\G.fN f≠"many"
 Jl:∃fI oI fd self p1 p2 p3 p4 k,mN "__init__"=some (.ref fI)/\G.hb.get? fI=some oI/\oI.cls=.type "function"/\oI.data=.func fd/\G.hb.CodeRec fd.code fd.qualname/\
  fd.body=.stmts [.Assign [.Attribute (.Name self p1) "many" p2] (.Constant (.int 0) k p3) p4]/\(∀v,bindArgs fd #[[v],[]]=pure [(self,v)])/\fd.closure=[]/\fd.scope.names.lookup self=some .local/\
  fd.scope.isCoroutine=false/\fd.scope.isGenerator=false/\fd.scope.kind=.function/\(self==("__debug__":Str))=false
structure cP(G:Gd):Prop where
 nolimit:G.hb.NoLimit
 Hi:∃mg mb,G.hb.Ns mainGlobals mg/\G.hb.Ns builtinsNs mb/\(∀f fn,G.P.fns f=some fn->G.fq f=true->mg (G.fN f)=some (.ref (G.fA f)))/\
  (∀g u,G.P.consts g=some u->∃v,mg (G.gN g)=some v/\∀R J h,(∀b o,G.hb.get? b=some o->h.get? b=some o)->(∀a∈R,G.hb.get? a=none)->Rel (G.re R) J h v u)/\(∀b∈pK,mg b=none/\mb b=bootBuiltins b)
 Ik:∃o,G.hb.get? sysModules=some o
 script:∃xs:List Value,G.hb.IsList G.sA xs.toArray/\IntsAre xs G.script
 short:G.script.length<=aJ
 tell:∃mg N mN,G.hb.Ns mainGlobals mg/\mg "Teller"=some (.ref (G.cA 0))/\Rb G N mN
section
variable{G:Gd}{A:Around}{E:bN}{s:Shared}{J aA:List Addr}{U ah:H}{h:Heap}
def FF:∀{xs:List Value}{ns:List Int},IntsAre xs ns->∀{k:Nat}{n:Int},ns[k]?=some n->∃t,xs[k]?=some (.int n t)
|_,_,.nil,k,n,e=>by simp at e
|_,_,.cons m t r,k,n,e=>by
  cases k with
  |zero=>simp at e;subst e;exact#[t,rfl]
  |succ k=>simp at e;simpa using FF r e
def aI.wV(S:aI G J U h)(K:cP G){a:Addr}(b:a∈J):(a==sysModules)=false:=by refine beq_eq_false_iff_ne.mpr λq=>?_;subst q;obtain⟨o,e⟩:=K.Ik;rw[S.new _ b] at e;exact bR e
def zc{kvs:List (Str×Value)}{es:List (Str×V)}(a:kvs.map (·.1)=es.map (·.1))(b:bL G J h (kvs.map (·.2)) (es.map (·.2)))(k:Str):
  match dn es k with|some u=>∃v,valueAt kvs k=some v/\Rel G J h v u|none=>valueAt kvs k=none:=by
 induction kvs generalizing es with
|nil=>
  clear b;cases es with
  |nil=>rfl
  |cons e es=>cases a
|cons f kvs c=>
  cases es with
  |nil=>cases a
  |cons e es=>
   simp only[List.map_cons,List.cons.injEq] at a b;cases b with
   |cons d b=>
    have:=c a.2 b;unfold dn valueAt at this ⊢;simp only[List.find?_cons]
    by_cases hk:e.1=k
    ·rw[a.1];simp only[hk,decide_true,Option.map_some];exact#[_,rfl,d]
    ·rw[a.1];simp only[hk,decide_false];exact this
def CP{kvs:List (Str×Value)}{es:List (Str×V)}(a:kvs.map (·.1)=es.map (·.1))(b:bL G J h (kvs.map (·.2)) (es.map (·.2)))(k:Str):(valueAt kvs k).isSome=(dn es k).isSome:=by
 have:=zc a b k;cases e:dn es k with
|none=>rw[e] at this;simp only at this;rw[this];rfl
|some u=>rw[e] at this;obtain⟨v,q,_⟩:=this;rw[q];rfl
def z6{neg:Bool}{x y:Value}{u v:V}(K:cP G)(F:A.units+64<cLine)(S:aI G J U s.heap)(p:Rel G J s.heap x u)(j:Rel G J s.heap y v){Q:bN}{b:Bool}{I:H}(e:gR u v U=.ok b I)(h:qI G (.ok (b ^^ neg) I) J s Q):wpAny G.mo A (compareOp (if neg then .NotIn else .In) x y) Q E s:=by
 cases v with
|ay vs=>
  cases j with
  |ay X r=>exact EH (isTup:=true) F S p X r e h
|str z=>
  cases u with
  |str w=>
   have e:(if w.cps.size=1 then M.pure (decide (w.cps.getD 0 0∈z.cps.toList)) else M.fail:M Bool) U=_:=e
   by_cases t:w.cps.size=1
   ·rw[if_pos t] at e;(refine eR e λf B=>?_;(clear e;subst f);subst B);(refine mz p λ_ f=>?_;subst f);(refine mz j λ_ f=>?_;subst f);have Y:w=#[(List.toArray [w.cps.getD 0 0])]:=by
     obtain⟨⟨l⟩⟩:=w
     match l,t with
     |[c],_=>rfl
    have C:=StrLaws.found_one z (w.cps.getD 0 0);rw[←Y] at C;cases neg
    ·exact P.in_str (h.cG S (by rw[C];simp[fF]))
    ·refine P.notIn_str (h.cG S ?_);rw[C];simp[fF]
   ·rw[if_neg t] at e;exact dc e
  |_=>exact dc e
|ref i=>
  refine bl (eJ e) λo ah q m=>aX (j8 q) λZ q=>?_;clear e z6;subst Z;cases o with
  |af vs=>
   refine fY (S.list q j) λa xs D _ hl r=>?_;clear j;subst D;exact EH (isTup:=false) F S p hl r m h
  |az es=>
   cases u with
   |str k=>
    refine eR m λf B=>?_;(clear m;subst f);subst B;refine ja (S.dict q j) λa kvs D hi L R T=>?_;clear j;subst D;refine mz p λ_ f=>?_;(clear p;subst f);have g:=S.wV K (List.mem_of_getElem? hi);cases neg
    ·exact wpAny_in_of (strKind_is _ _ _ _) g L.mapOf (h.here S (by rw[CP R T];simp[fF]))
    ·exact wpAny_notIn_of (strKind_is _ _ _ _) g L.mapOf (h.here S (by rw[CP R T];simp[fF]))
   |_=>exact dc m
  |inst c d=>exact dc m
  |dM n=>exact dc m
|_=>exact dc e
def th{k:CmpOp}{x y:Value}{u v:V}(K:cP G)(g:A.units+64<cLine)(S:aI G J U s.heap)(b:Rel G J s.heap x u)(c:Rel G J s.heap y v){Q:bN}(h:qI G (dh k u v U) J s Q):wpAny G.mo A (compareOp k x y) Q E s:=by
 have a:∀{f:Int->Int->Bool},qI G ((M.bind (dQ u) λx=>M.bind (dQ v) λy=>M.pure (f x y)) U) J s Q->∃i j t t',x=.int i t/\y=.int j t'/\Q (.bool (f i j)) s:=by
  intro f h;refine bl (aR.bind h) λi d n p=>aX (j5 n) λl m=>?_;clear n;(clear h;subst l);clear h th;subst m;refine bl (aR.bind p) λj d o w=>aX (j5 o) λl m=>?_;clear o;subst l;subst m;cases b with
  |int i t=>cases c with
   |int j t'=>exact#[i,j,t,t',rfl,rfl,w.cG S rfl]
 cases k with
|Eq=>
  exact aR.BF (r:=iM u v U) h λr d e h=>Gp (neg:=false) g S b c e (by rw[Bool.xor_false];exact h)
|NotEq=>
  obtain⟨r,d,e,h⟩:=aR.bind h;exact Gp g S b c e (by rw[Bool.xor_true];exact h)
|In=>
  exact aR.BF (r:=gR u v U) h λr d e h=>z6 (neg:=false) K g S b c e (by rw[Bool.xor_false];exact h)
|NotIn=>
  obtain⟨r,d,e,h⟩:=aR.bind h;exact z6 K g S b c e (by rw[Bool.xor_true];exact h)
|Lt=>obtain⟨i,j,t,t',rfl,rfl,q⟩:=a h;exact P.lt_int q
|Gt=>obtain⟨i,j,t,t',rfl,rfl,q⟩:=a h;exact P.gt_int q
|LtE=>obtain⟨i,j,t,t',rfl,rfl,q⟩:=a h;exact P.le_int q
|GtE=>exact h.elim
|Is=>exact h.elim
|IsNot=>exact h.elim
def sL{slice:au}(a:∀l u p,slice≠.Slice l u none p)(o i:Value):subscripted slice false o i=operate [o,i] (getItem o i):=by
 cases slice with
|Slice l u st p=>cases st with
  |none=>exact absurd rfl (a _ _ _)
  |some x=>rfl
|_=>rfl
def wW{α:Type}{xs:List α}{k:Int}{a:α}{c:H}(e:fc xs k U=.ok a c):0<=k/\k<2^63/\xs[k.toNat]?=some a/\c=U:=by
 unfold fc at e
 by_cases hk:0<=k/\k<0x4000000000000000
 ·rw[if_pos hk] at e;cases hx:xs[k.toNat]? with
  |none=>rw[hx] at e;exact dc e
  |some b=>rw[hx] at e;(apply fO e);exact#[hk.1,~~~bw 0x7007007007007007007007007007a0184c04904920500700700700700700700700700700790184c rfl hk.2,rfl,rfl]
 ·rw[if_neg hk] at e;exact dc e
def CF{k:Int}{n:Nat}(a:0<=k)(hk:k.toNat<n):seqIndex? k n=some k.toNat:=by unfold seqIndex?;have:¬ k<0:=Int.not_lt.mpr (bw iF rfl a);simp only[this,if_false];rw[if_pos (by simp;lia)]
def zd{C:Ctx}{B slice:au}{x y:Value}{u v:V}(K:cP G)(hC:C.script=G.script)(S:aI G J U s.heap)(D:Rel G J s.heap x u)(I:Rel G J s.heap y v)(X:∀l u p,slice≠.Slice l u none p){Q:bN}(h:PV G (index C u v U) J s Q):wpAny G.mo A (subscriptTail B slice x y) Q E s:=by
 cases u with
|ay vs=>
  cases v with
  |int k=>
   refine aR.BF h λa Y e h'=>?_
   ·have zz:=wW e;clear e;obtain⟨L,g,f,rfl⟩:=zz;(apply eY I;intro _);cases D with
    |@ay t xs _ ht r=>
     refine aQ (r.get f) λz T Z=>?_;have R:k.toNat<xs.length:=(List.getElem?_eq_some_iff.mp T).1;exact tail_any ht.typeIs slot_tuple_getitem.lookup (getItem_tuple ht (by lia) g (CF L (by simpa using R)) (by simpa using T) (h'.cG S Z)) (sL X _ _)
  |_=>exact h.elim
|str z=>
  cases v with
  |int k=>
   refine bl (aR.bind h) λc Y e b=>?_;have zz:=wW e;clear e;obtain⟨L,g,f,rfl⟩:=zz;(apply lq D;intro _);(apply eY I;intro _);have R:k.toNat<z.length:=by
    have:=(List.getElem?_eq_some_iff.mp f).1
    simpa[Str.length] using this
   have hc:(seqIndex? k z.length).bind (z.cps[·]?)=some c:=by
    rw[CF L R]
    simpa using f
   exact tail_any (typeIs_str _ _ _) F.slot_str_getitem.lookup (P.getItem_str (by simp;lia) hc (b.here S (.str _ _))) (sL X _ _)
  |_=>exact h.elim
|cF=>
  cases v with
  |int k=>
   refine bl (aR.bind h) λn Y e b=>?_;have zz:=wW e;clear e;obtain⟨L,g,f,rfl⟩:=zz;(apply eY I;intro _);(apply Ih D);obtain⟨xs,⟨o,ho,hc,m,hd⟩,hi⟩:=K.script;have hl:s.heap.IsList G.sA xs.toArray:=#[o,S.base _ _ ho,hc,m,hd];rw[hC] at f;obtain⟨t,ht⟩:=FF hi f;exact tail_any hl.typeIs slot_list_getitem.lookup (wpAny_getItem_list hl L g (by simpa using ht) (b.cG S (.int _ _))) (sL X _ _)
  |_=>exact h.elim
|ref i=>
  cases v with
  |int k=>
   refine bl (aR.bind h) λvs Y e b=>ct (eT e) λj q aW e1=>?_;clear e;(clear h zd;subst aW);refine jt q λaO=>?_;subst aO;cases e2:fc vs k Y with
   |ok a bP=>
    refine jL (wW e2) λL g f eH=>?_;subst eH;rw[e2] at b;refine t6 I λ_ aO=>?_;(clear I;subst aO);refine fY (S.list e1 D) λa' xs aW _ hl r=>?_;clear D;subst aW;exact aQ (r.get f) λz T Z=>tail_any hl.typeIs slot_list_getitem.lookup (wpAny_getItem_list hl L g (by simpa using T) (b.cG S Z)) (sL X _ _)
   |aF c bP=>rw[e2] at b;exact b.elim
   |bad=>rw[e2] at b;exact b.elim
  |str k=>
   refine bl (aR.bind h) λo Y e b=>aX (j8 e) λcM e1=>?_;clear e;(clear h zd;subst cM);cases o with
   |az es=>
    refine aQ (aR.dD b) λw hw h3=>ja (S.dict e1 D) λa kvs aW hi hd g h2'=>?_;clear D;subst aW;have:=zc g h2' k;rw[hw] at this;obtain⟨z,T,Z⟩:=this;(apply lq I;intro _);exact tail_any hd.typeIs slot_dict_getitem.lookup (wpAny_getItem_of (strKind_is _ _ _ _) hd.mapOf T (h3.here S Z)) (sL X _ _)
   |af vs=>exact b.elim
   |inst c d=>exact b.elim
   |dM n=>exact b.elim
  |_=>exact h.elim
|_=>(clear I;cases v)<;>exact h.elim
end
section
variable{G:Gd}{A:Around}{E:bN}{s:Shared}{J aA:List Addr}{U ah:H}{h:Heap}{prog:Program}{w:World}
abbrev ei(a:Option Nat):Option Int:=a.map λn=>(n:Int)
def CB(b:IsPart v a)(h:Q a s):wpAny (model prog w) A (Builtin.Slice.slicePartIndex v) Q E s:=by
 cases b with
|none=>exact slicePart_none h
|int i t=>exact slicePart_int h
def LB(a b:Option Nat)(n:Nat):Builtin.Slice.sliceAdjust (ei a) (ei b) 1 (n:Int)=(((min (a.getD 0) n:Nat):Int),((min (b.getD n) n:Nat):Int)):=by
 unfold Builtin.Slice.sliceAdjust;have e:¬ ((1:Int)<0):=by exact Int.not_lt.mpr (lI 562041416 [] rfl)
 simp only[e,if_false];cases a with
|none=>
  cases b with
  |none=>simp[ei]
  |some b=>
   have c:¬ ((b:Int)<0):=by exact Int.not_lt.mpr (bw iF rfl (gg _))
   simp[ei,c];lia
|some a=>
  have d:¬ ((a:Int)<0):=by exact Int.not_lt.mpr (bw iF rfl (gg _))
  cases b with
  |none=>simp[ei,d];lia
  |some b=>
   have c:¬ ((b:Int)<0):=by exact Int.not_lt.mpr (bw iF rfl (gg _))
   simp[ei,c,d];lia
def LC(a b:Nat):Builtin.Slice.slicePlaces (a:Int) (b:Int) 1=b-a:=by
 unfold Builtin.Slice.slicePlaces;have c:(1:Int)>0:=by exact lI 2269378515528 [] rfl
 simp only[c,if_true,Int.ediv_one]
 split<;>lia
def KI{g:Addr}{e f:Value}{a b:Option Nat}{n:Nat}(i:s.heap.IsSliceOf g e f .none)(j:IsPart e (ei a))(k:IsPart f (ei b))(h:Q (((min (a.getD 0) n:Nat):Int),1,min (b.getD n) n-min (a.getD 0) n) s):wpAny (model prog w) A (Builtin.Slice.sliceApplied (.ref g) (pure (n:Int))) Q E s:=by refine ct (id i) λo c l d=>?_;unfold Builtin.Slice.sliceApplied Builtin.Slice.sliceFields;refine wpAny_bind (wpAny_bind (wpAny_field c d (x:=e) rfl (wpAny_bind (wpAny_field c d (x:=f) rfl (wpAny_bind (wpAny_field c d (x:=.none) rfl (wpAny_pure ?_)))))));refine wpAny_bind (slicePart_none ?_);show wpAny _ _ (if((1:Int)==0)=true then _ else _) _ _ s;rw[if_neg ∅];refine wpAny_bind (CB j (wpAny_bind (CB k (wpAny_bind (wpAny_pure ?_)))));show wpAny _ _ (match Builtin.Slice.sliceAdjust (ei a) (ei b) 1 (n:Int) with|(lo,m)=>pure (lo,(1:Int),Builtin.Slice.slicePlaces lo m 1)) _ _ s;refine(LB a b n)▸?_;show wpAny _ _ (pure (((min (a.getD 0) n:Nat):Int),(1:Int),Builtin.Slice.slicePlaces ((min (a.getD 0) n:Nat):Int) ((min (b.getD n) n:Nat):Int) 1)) _ _ s;rw[LC];exact wpAny_pure h
def Nk(xs:List Value)(a n:Nat):((List.range n).filterMap λ(k:Nat)=>xs.toArray[((a:Int)+(k:Int)*1).toNat]?)=(xs.drop a).take n:=by
 have e:(λ(k:Nat)=>xs.toArray[((a:Int)+(k:Int)*1).toNat]?)=λk=>xs[a+k]?:=by
  funext k
  have:((a:Int)+(k:Int)*1).toNat=a+k:=by lia
  (refine this▸?_);simp
 refine e▸?_;have:=pick_run xs.toArray a n;replace this:=(List.filterMap_map)▸this;have b:((λx=>xs.toArray[x]?) ∘ λx=>a+x)=λk=>xs[a+k]?:=by funext k;simp
 replace this:=b▸this
 simpa using this
def FG{α:Type}(xs:List α)(a b:Option Nat):(xs.drop (min (a.getD 0) xs.length)).take (min (b.getD xs.length) xs.length-min (a.getD 0) xs.length)=(xs.take (b.getD xs.length)).drop (a.getD 0):=by
 refine(List.drop_take).symm▸?_
 by_cases c:a.getD 0<=xs.length
 ·refine(Nat.min_eq_left c).symm▸?_
  by_cases hb:b.getD xs.length<=xs.length
  ·refine(Nat.min_eq_left hb).symm▸?_;with_reducible rfl
  ·rw[Nat.min_eq_right (~~~aM zm rfl (Nat.not_le.mp hb)),List.take_of_length_le (by simp),List.take_of_length_le (by simp;exact bD 0x4e08e34c20124024124804904904920534184c rfl (Nat.not_le.mp hb))]
 ·have d:xs.drop (a.getD 0)=[]:=List.drop_of_length_le (~~~aM zm rfl (Nat.not_le.mp c));have e:min (a.getD 0) xs.length=xs.length:=by lia
  (refine d▸?_;refine e.symm▸?_);simp
def Rc(b a n:Nat):min b n-a=min b n-min a n:=
 (Nat.le_total a n).elim (λh=>(Nat.min_eq_left h).symm▸rfl) (λh=>(Nat.min_eq_right h).symm▸(Nat.sub_eq_zero_of_le (bZ (Nat.min_le_right b n) h)).trans (Nat.sub_eq_zero_of_le (Nat.min_le_right b n)).symm)
def Ky{t o:Addr}{xs:List Value}{p q:Value}(d:IsTup s.heap t xs.toArray)(r:s.heap.IsSliceOf o p q .none)(x:IsPart p (ei a))(y:IsPart q (ei b))(z:(xs.take (b.getD xs.length)).drop (a.getD 0)=xs->Q (.ref t) s)(u:Q (.ref s.heap.objs.size) {s with heap:=s.heap.push {cls:=.type "tuple",data:=.seq ((xs.take (b.getD xs.length)).drop (a.getD 0)).toArray}})(j:xs.length<=sizeLine):wpAny (model prog w) A (getItem (.ref t) (.ref o)) Q E s:=by
 have f:sizeOk (.seq ((xs.take (b.getD xs.length)).drop (a.getD 0)).toArray):=by
  show((xs.take (b.getD xs.length)).drop (a.getD 0)).toArray.size<=sizeLine;exact(List.size_toArray).symm▸(List.length_drop)▸(List.length_take)▸bZ (Nat.sub_le _ _) (bZ (Nat.min_le_right _ _) j)
 refine ct (id r) λB l n C=>?_;unfold getItem
 try with_reducible refine wpAny_holding ?_
 first|refine wpAny_bind (wpAny_pure ?_)|skip
 refine wpAny_bind (wpAny_sequenceKey d.typeIs ∅ ?_)
 refine wpAny_bind (wpAny_callSpecial?_slot (name:=Str.ofString "__getitem__") d.typeIs slot_tuple_getitem
  (wpAny_call_entry slot_tuple_getitem d.typeIs entry_tuple_getitem ?_ (args_tuple_getitem _ _)))
 show wpAny _ _ (Builtin.Tuple.tupleItemsOf (.ref t) >>= _) _ _ s;refine wpAny_bind (tupleItemsOf_ d ?_);refine wpAny_bind (wpAny_typeOf (#[B,l,n]) ?_);rw[if_pos ∅];have c:xs.toArray.size=xs.length:=by rfl
 refine c▸wpAny_bind (KI r x y ?_);have e:((List.range (min (b.getD xs.length) xs.length-min (a.getD 0) xs.length)).filterMap λ(k:Nat)=>xs.toArray[(((min (a.getD 0) xs.length:Nat):Int)+(k:Int)*1).toNat]?)=(xs.take (b.getD xs.length)).drop (a.getD 0):=by
  rw[Nk,FG]
 have v:((xs.take (b.getD xs.length)).drop (a.getD 0)).length=min (b.getD xs.length) xs.length-min (a.getD 0) xs.length:=by
  (refine(List.length_drop)▸?_;refine(List.length_take).symm▸?_);exact Rc _ _ _
 show wpAny _ _ (if(((min (a.getD 0) xs.length:Nat):Int)==0&&(1:Int)==1&&(min (b.getD xs.length) xs.length-min (a.getD 0) xs.length)==xs.length)=true then _ else _) _ _ s
 by_cases g:(((min (a.getD 0) xs.length:Nat):Int)==0&&(1:Int)==1&&(min (b.getD xs.length) xs.length-min (a.getD 0) xs.length)==xs.length)=true
 ·refine(if_pos g)▸?_;simp only[Bool.and_eq_true,beq_iff_eq] at g;have i:(xs.take (b.getD xs.length)).drop (a.getD 0)=xs:=by
   have D:=g.2;have F:min (a.getD 0) xs.length=0:=Int.ofNat.inj g.1.1;rw[←FG,F,List.drop_zero,List.take_of_length_le (~~~bD 0xa034c20820124024124804904904920124124124804900904920630238d rfl D)]
  refine wpAny_bind (m:=Builtin.Tuple.tupleIsExact _) ?_;unfold Builtin.Tuple.tupleIsExact;refine wpAny_bind (wpAny_typeOf d.typeIs (wpAny_pure ?_));rw[if_pos ∅];exact wpAny_bind (wpAny_rule (wpAny_pure #[_,rfl,wpAny_pure (z i)]))
 ·refine(if_neg g)▸e▸?_
  first
   |exact wpAny_bind (m:=Builtin.Tuple.tupleExact _) (wpAny_newObj_type (wpAny_pure #[_,rfl,wpAny_pure u]) f)
   |exact wpAny_bind (wpAny_bind (m:=Builtin.Tuple.tupleExact _) (wpAny_newObj_type (wpAny_pure #[_,rfl,wpAny_pure u]) f))
end
end Qh
set_option tactic.hygienic true
namespace Qh
open PySem PyProof.Rows
section
variable{G:Gd}{A:Around}{E:bN}{s:Shared}{J aA:List Addr}{U ah:H}{h:Heap}
def ze{α:Type}{xs:List α}{f d:V}{r:List α}(e:jM xs f d U=.ok r aw):
  ∃a b:Option Nat,aw=U/\r=(xs.take (b.getD xs.length)).drop (a.getD 0)/\(∀x,Rel G J h x f->IsPart x (ei a))/\(∀x,Rel G J h x d->IsPart x (ei b))/\(a=none->b≠none)/\(a≠none->b≠none->∃i j,f=.int i/\d=.int j):=by
 have g:∀{i:Int},0<=i->∀x,Rel G J h x (.int i)->IsPart x (ei (some i.toNat)):=λ{i} d x r=>t6 r λt q=>q▸(Int.toNat_of_nonneg d▸.int i t:IsPart (.int i t) (some (i.toNat:Int)));have k:∀x,Rel G J h x .none->IsPart x (ei none):=λx r=>Td r λq=>q▸.none;cases f with
|none=>cases d with
  |int hh=>
   by_cases c:0<=hh/\hh<0x4000000000000000
   ·replace e:=((if_pos c:(if 0<=hh/\hh<0x4000000000000000 then M.pure (xs.take hh.toNat) else M.fail)=_)▸e:M.pure (xs.take hh.toNat) U=.ok r aw);(apply fO e);exact#[none,some hh.toNat,rfl,rfl,k,g c.1,λ_ q=>ez q,λq=>absurd rfl q]
   ·replace e:=((if_neg c:(if 0<=hh/\hh<0x4000000000000000 then M.pure (xs.take hh.toNat) else M.fail)=_)▸e:M.fail U=.ok r aw);exact dc e
  |_=>exact dc e
|int l=>cases d with
  |none=>
   by_cases c:0<=l/\l<0x4000000000000000
   ·replace e:=((if_pos c:(if 0<=l/\l<0x4000000000000000 then M.pure (xs.drop l.toNat) else M.fail)=_)▸e:M.pure (xs.drop l.toNat) U=.ok r aw);(apply fO e);refine#[some l.toNat,none,rfl,by simp,g c.1,k,by simp,by simp]
   ·replace e:=((if_neg c:(if 0<=l/\l<0x4000000000000000 then M.pure (xs.drop l.toNat) else M.fail)=_)▸e:M.fail U=.ok r aw);exact dc e
  |int hh=>
   by_cases c:0<=l/\l<0x4000000000000000/\0<=hh/\hh<0x4000000000000000
   ·replace e:=((if_pos c:(if 0<=l/\l<0x4000000000000000/\0<=hh/\hh<0x4000000000000000 then M.pure ((xs.take hh.toNat).drop l.toNat) else M.fail)=_)▸e:M.pure ((xs.take hh.toNat).drop l.toNat) U=.ok r aw);(apply fO e);exact#[some l.toNat,some hh.toNat,rfl,rfl,g c.1,g c.2.2.1,by simp,λ_ _=>#[_,_,rfl,rfl]]
   ·replace e:=((if_neg c:(if 0<=l/\l<0x4000000000000000/\0<=hh/\hh<0x4000000000000000 then M.pure ((xs.take hh.toNat).drop l.toNat) else M.fail)=_)▸e:M.fail U=.ok r aw);exact dc e
  |_=>exact dc e
|_=>exact dc e
def K3(xs:List Value)(a b:Option Nat)(c:a=none∨b=none)(d:a=none->b≠none):slicePick xs.toArray (ei a) (ei b) none=((xs.take (b.getD xs.length)).drop (a.getD 0)).toArray:=by
 cases a with
|none=>
  clear c;cases b with
  |none=>exact absurd rfl (d rfl)
  |some b=>have:=slicePick_upto' xs.toArray b;simpa[ei] using this
|some a=>
  clear d;cases b with
  |none=>have:=slicePick_from' xs.toArray a;simpa[ei] using this
  |some b=>rcases c with q|q<;>exact ez q
def OO(x:Str)(a b:Option Nat)(d:a=none∨b=none)(f:a=none->b≠none):((Builtin.Str.strSliceIndices (ei a) (ei b) 1 x.length).filterMap (x.cps[·]?)=(x.cps.toList.take (b.getD x.cps.toList.length)).drop (a.getD 0))/\
  ((Builtin.Str.strSliceIndices (ei a) (ei b) 1 x.length).length=x.length->(x.cps.toList.take (b.getD x.cps.toList.length)).drop (a.getD 0)=x.cps.toList):=by
 have c:x.cps.toList.length=x.length:=by simp[Str.length]
 cases a with
|none=>
  clear d;cases b with
  |none=>exact absurd rfl (f rfl)
  |some b=>
   have e:Builtin.Str.strSliceIndices (ei none) (ei (some b)) 1 x.length=Builtin.Str.strSliceIndices (some ((0:Nat):Int)) (some ((min b x.length:Nat):Int)) 1 x.length:=by
    have g:¬ ((b:Int)<0):=Int.not_lt.mpr (bw iF rfl (gg _));simp[ei,Builtin.Str.strSliceIndices,g]
    congr 1<;>split<;>lia
   rw[e,StrLaws.sliced_plain x (gp _) (Nat.min_le_right _ _),StrLaws.strSliceIndices_plain (gp _) (Nat.min_le_right _ _)];simp only[List.drop_zero,Nat.sub_zero,Option.getD_some,Option.getD_none,List.length_map,List.length_range];rcases Nat.le_total b x.length with q|q
   ·rw[Nat.min_eq_left q];exact#[rfl,λz=>List.take_of_length_le (bD 0xd30124124024024124818e30638d rfl c z)]
   ·rw[Nat.min_eq_right q,List.take_of_length_le (~~~aM Fb rfl c),List.take_of_length_le (~~~bD Fc rfl c q)];exact#[rfl,λ_=>rfl]
|some a=>
  clear f;cases b with
  |some b=>rcases d with q|q<;>exact ez q
  |none=>
   have e:Builtin.Str.strSliceIndices (ei (some a)) (ei none) 1 x.length=Builtin.Str.strSliceIndices (some ((min a x.length:Nat):Int)) (some ((x.length:Nat):Int)) 1 x.length:=by
    have g:¬ ((a:Int)<0):=Int.not_lt.mpr (bw iF rfl (gg _));have i:¬ ((x.length:Int)<0):=Int.not_lt.mpr (bw iF rfl (gg _));have j:max (0:Int) (x.length:Int)=x.length:=Int.le_antisymm (bw 0x303320201240241248049205320 rfl (gg _)) (bw 0x3320308049049201248 rfl);simp[ei,Builtin.Str.strSliceIndices,g,i,j]
    congr 1;split<;>lia
   rw[e,StrLaws.sliced_plain x (Nat.min_le_right _ _) (aU _),StrLaws.strSliceIndices_plain (Nat.min_le_right _ _) (aU _)];simp only[Option.getD_some,Option.getD_none,List.length_map,List.length_range];rw[List.take_of_length_le (aU _),List.take_of_length_le (by rw[List.length_drop,c];exact aU _)];rcases Nat.le_total a x.length with q|q
   ·rw[Nat.min_eq_left q];refine#[rfl,λz=>?_];rcases Nat.eq_zero_or_pos a with r|r
    ·rw[r];rfl
    ·have:x.length=0:=cm (aM 0x2030800904904920124024124818c08d305341860 rfl z r) (a7 209719880 rfl);rw[List.drop_of_length_le (~~~bD 0x34c00900904904904920538d14d06180680e rfl q r this),List.length_eq_zero_iff.mp (c.trans this)]
   ·rw[Nat.min_eq_right q,List.drop_of_length_le (~~~aM Fb rfl c),List.drop_of_length_le (~~~bD Fc rfl c q)];exact#[rfl,λz=>(List.length_eq_zero_iff.mp (cm (aM 0x2030804904900900900904920124124024024024124818d30634234d rfl c z) (a7 209719880 rfl))).symm]
def part_of{x:Value}{p:Option Int}(h:IsPart x p):∃l:Option (Int×Tok),x=partValue l/\l.map (·.1)=p:=by
 cases h with
|none=>exact#[none,rfl,rfl]
|int i t=>exact#[some (i,t),rfl,rfl]
def vM{m:au}{n v:Option au}{p:Pos}{x vl vu:Value}{sl:Addr}(S:aI G J U s.heap)(P:Rel G J s.heap x u)(I:Rel G J s.heap vl l)(K:Rel G J s.heap vu hh)(R:s.heap.IsSliceOf sl vl vu .none){Q:bN}(h:PV G (slice u l hh U) J s Q):wpAny G.mo A (subscriptTail m (.Slice n v none p) x (.ref sl)) Q E s:=by
 cases u with
|ay T=>
  obtain⟨r,aw,e,w⟩:=aR.bind h;refine tY (ze (G:=G) (J:=J) (h:=s.heap) e) λa b d g y B _ _=>?_;clear e;(clear h vM;subst d);subst g;obtain⟨k,f⟩:=aR.ite w;cases P with
  |@ay t xs _ X r nt=>
   have c:=r.length;refine tail_any X.typeIs slot_tuple_getitem.lookup (Ky X R (y _ I) (B _ K) (λe=>?_) ?_ (by(refine c▸?_);exact iC k)) rfl
   ·refine f.cG S (.ay X ?_ nt);have:=(r.take (b.getD T.length)).drop (a.getD 0);rw[←c] at this ⊢;(replace this:=e▸this);exact this
   ·have:=(r.take (b.getD T.length)).drop (a.getD 0);rw[←c] at this f;exact f.z0 S this
|ref i=>
  refine bl (aR.bind h) λT aw e w=>ct (eT e) λi' q d e1=>?_;clear e;(clear vM;(clear h;subst d));refine jt q λaO=>?_;subst aO;refine bB λXx aH=>bl (aR.bind w) λr bP e2 f=>tY (ze (G:=G) (J:=J) (h:=s.heap) e2) λa b d g y B L hb=>?_;clear e2;subst d;subst g;obtain⟨⟨C,k⟩,Y⟩:=aR.ite f;refine fY (S.list e1 P) λad xs d _ hl r=>?_;clear P;subst d;refine aH ?_;have c:=r.length;have D:a=none∨b=none:=by
   clear Y f L y;cases a with
   |none=>exact .inl rfl
   |some a=>clear B;cases b with
    |none=>exact .inr rfl
    |some b=>
     refine bl (hb (by simp) (by simp)) λi j d g=>?_;clear w I;subst d;clear K;subst g;exact ff C
  refine tail_any hl.typeIs slot_list_getitem.lookup (wpAny_getItem_list_slice hl R (y _ I) (B _ K) .none (by simp) ?_ (by(refine(List.size_toArray)▸?_;refine c▸?_);exact iC k)) rfl;refine(K3 xs a b D L)▸?_;have:=(r.take (b.getD T.length)).drop (a.getD 0);rw[←c] at this Y;exact Y.z5 S this
|str z=>
  obtain⟨r,aw,e,w⟩:=aR.bind h;refine tY (ze (G:=G) (J:=J) (h:=s.heap) e) λa b d g y B L hb=>?_;clear e;(clear h vM;subst d);subst g;obtain⟨⟨C,k⟩,f⟩:=aR.ite w;have D:a=none∨b=none:=by
   clear f w L y;cases a with
   |none=>exact .inl rfl
   |some a=>clear B;cases b with
    |none=>exact .inr rfl
    |some b=>
     refine bl (hb (by simp) (by simp)) λi j d g=>?_;clear I;subst d;clear K;subst g;exact ff C
  obtain⟨l1,q1,U8⟩:=part_of (y _ I);obtain⟨l2,q2,U9⟩:=part_of (B _ K);obtain⟨c1,c2⟩:=OO z a b D L;refine mz P λt q=>?_;subst q;rw[q1,q2] at R;obtain⟨o,o1,o2,o3⟩:=R;refine tail_any (typeIs_str s z t) F.slot_str_getitem.lookup (wpAny_getItem_str_slice (u:=l2) (st:=none) #[o,o1,o2,o3] rfl ?_) rfl;unfold sliceMade slicePicked;rw[U8,U9]
  by_cases Z:(Builtin.Str.strSliceIndices (ei a) (ei b) 1 z.length).length=z.length
  ·rw[if_pos (by rw[show((none:Option (Int×Tok)).map (·.1)).getD 1=1 from rfl,Z];simp)];have:=c2 Z;refine f.cG S ?_;rw[this];exact .str z t
  ·rw[if_neg (by rw[show((none:Option (Int×Tok)).map (·.1)).getD 1=1 from rfl];simpa using Z)];rw[show((none:Option (Int×Tok)).map (·.1)).getD 1=1 from rfl,c1];refine#[?_,f.here S (.str _ _)];show(List.toArray _).size<=sizeLine;rw[List.size_toArray];refine iC ?_;rw[List.length_drop,List.length_take];have:z.cps.toList.length=z.length:=by simp[Str.length]
   lia
|_=>exact h.elim
def fits63(h:n<=aJ):(n:Int)<2^63:=by have:aJ=1000000:=rfl;exact cS 0x1c01c01c01c01c01c01c01c01c01e806130124024124124814d306007247d078cd rfl (Int.ofNat_le.mpr h) (congrArg Int.ofNat this)
def Rd(K:cP G)(k:C.script=G.script)(S:aI G J U s.heap)(d:Rel G J s.heap x u)(h:PV G (lenOf C u U) J s Q):
  wpAny G.mo A (call (.builtin "len") [x]) Q E s:=by
 cases u with
|ay g=>
  obtain⟨b,f⟩:=aR.ite h;cases d with
  |@ay t c _ p r=>
   have l:=r.length;have a:c.toArray.size=g.length:=by assumption
   refine len_tuple p (by(refine a▸?_);exact fits63 b) ?_;exact(a)▸f.here S (.int _ _)
|str z=>
  refine aX (aR.ite h) λb f=>?_;(apply lq d;intro _);have:=fits63 b;exact P.len_str (Int.not_le.mpr (bw 0x7007007007007007007007007007a0184c049049205007007007007007007007007007007a0184c rfl this)) (f.here S (.int _ _))
|cF=>
  (apply Ih d);obtain⟨c,⟨o,v,w,m,y⟩,B⟩:=K.script;have j:s.heap.IsList G.sA c.toArray:=#[o,S.base _ _ v,w,m,y];have a:c.toArray.size=C.script.length:=by(refine k▸?_);simp[B.length]
  refine PyProof.Rows.len_list j (by(refine a▸?_;refine k▸?_);exact fits63 K.short) ?_;exact(a)▸aR.here h S (.int _ _)
|ref i=>
  refine bB λR n=>?_;obtain⟨g,T,e,f⟩:=aR.bind h;have zz:=eT e;clear e;obtain⟨X,q,rfl,D⟩:=zz;refine n (jt q λF=>?_);(clear q;subst F);obtain⟨b,I⟩:=aR.ite f;refine fY (S.list D d) λY c L _ j r=>?_;clear d;(clear n;subst L);have a:c.toArray.size=g.length:=by simp[(r.length)]
  refine PyProof.Rows.len_list j (by(refine a▸?_);exact fits63 b) ?_;exact(a)▸I.here S (.int _ _)
|_=>exact h.elim
def Nl(S:aI G J U s.heap)(a:Rel G J s.heap x u)(h:PV G (wR u U) J s Q):wpAny G.mo A (call (.type "int") [x]) Q E s:=by refine bB λi c=>bl (aR.bind h) λb j e d=>aX (sV e) λf g=>?_;clear e;(clear h;subst f);subst g;refine c ?_;(apply qv a);exact call_int_bool (d.here S (.int _ _))
def Nm(S:aI G J U s.heap)(b:Rel G J s.heap x u)(h:PV G (tR u U) J s Q):wpAny G.mo A (call (.type "str") [x]) Q E s:=by
 refine bB λk c=>bl (aR.bind h) λi l e d=>aX (j5 e) λf g=>?_;clear e;(clear h;subst f);subst g;obtain⟨n,j⟩:=aR.ite d;refine c ?_;(apply eY b;intro _);refine P.str_of_int ?_ (j.here S (.str _ _))
 by_cases a:i.natAbs=0
 ·(refine a▸?_);decide
 ·refine(Nat.log2_lt a).mpr (Nat.lt_of_lt_of_le (m:=2^34) (by lia) (Nat.pow_le_pow_right ∅ ∅))
def bL.ints(r:bL G J h xs vs)(e:intsOf vs=some ns):∃ps:List (Int×Tok),xs=ps.map (λp=>Value.int p.1 p.2)/\ps.map (·.1)=ns:=by
 induction xs generalizing vs ns with
|nil=>cases r;(apply fg e);exact#[[],rfl,rfl]
|cons x xs ih=>
  cases r with
  |cons hx r=>
   cases hx<;>simp only[intsOf] at e<;>try exact bR e
   rename_i y t
   refine aQ (Option.map_eq_some_iff.mp e) λzs e1 aW=>?_;clear e;subst aW;refine aQ (ih r e1) λps bh q=>?_;clear e1;(clear r ih;subst bh);exact#[(y,t)::ps,rfl,by simp[q]]
def LD(ps:List (Int×Tok)):∀k,k<=ps.length->preSum (numAt ps.toArray) k=((ps.map (·.1)).take k).sum:=by
 intro k
 induction k with
|zero=>intro _;rfl
|succ k a=>
  intro hk;rw[preSum,a (aM zm rfl hk)];have:(ps.map (·.1)).take (k+1)=(ps.map (·.1)).take k++[ps[k].1]:=by
   (refine(List.take_add_one)▸?_);simp[List.getElem?_eq_getElem (show k<ps.length by exact aM vZ rfl hk)]
  rw[this,List.sum_append];simp[numAt,List.getElem?_eq_getElem (show k<ps.length by exact aM vZ rfl hk)]
def Rf(hh:A.handled=none)(S:aI G J U s.heap)(g:Rel G J s.heap x u)(h:PV G (oR u U) J s Q):wpAny G.mo A (call (.builtin "sum") [x]) Q E s:=by
 refine bB λz m=>bl (aR.bind h) λj n e o=>ct (eT e) λi f c p=>?_;clear e;(clear h;subst f);subst c;refine bl (aR.bind o) λns B b q=>?_;obtain⟨a,l,t⟩:∃a,intsOf j=some a/\PV G (.ok (.int a.sum) n) J s Q:=by
  cases hi:intsOf j with
  |none=>(replace b:=hi▸b);exact dc b
  |some k=>(replace b:=hi▸b);(refine eR b λv w=>?_;subst v;subst w);exact#[_,rfl,q]
 refine fY (S.list p g) λC xs c _ y r=>?_;clear g;subst c;refine aQ (r.ints l) λd f c=>?_;clear r;subst f;clear l;subst c;refine m (sum_intListG (xs:=d.toArray) hh (by simpa[intItems] using y) λD F I hk=>?_);have:=LD d d.length (aU _);rw[show d.toArray.size=d.length by rfl,this];refine t.grown S hk ?_;rw[(List.take_of_length_le (by simp))];exact .int _ _
def OP(hh:A.handled=none)(S:aI G J U s.heap)(rx:Rel G J s.heap x u)(ry:Rel G J s.heap y v)(h:PV G (xo u v U) J s Q):
  wpAny G.mo A (call (.builtin "max") [x,y]) Q E s:=by
 refine bB λXx aH=>bl (aR.bind h) λi aw e h2=>aX (j5 e) λcM bh=>?_;clear e;(clear h;subst cM);subst bh;refine bl (aR.bind h2) λj bP e2 h3=>aX (j5 e2) λcM bh=>?_;clear e2;subst cM;subst bh;refine aH ?_;(apply eY rx;intro _);(apply eY ry;intro _);refine max_two_ints hh λh' tk hk=>?_
 split
 ·rename_i hc;exact aR.grown (by simpa[hc,M.pure] using h3) S hk (Rel.int _ _)
 ·rename_i hc;exact aR.grown (by simpa[hc,M.pure] using h3) S hk (Rel.int _ _)
def DH(S:aI G J U s.heap)(g:Rel G J s.heap x u)(h:qI G (d0 t u U) J s Q):wpAny G.mo A (call (.builtin "isinstance") [x,.type t]) Q E s:=by
 have j:t∈gw->t="int"∨t="bool"∨t="str"∨t="tuple"∨t="list":=λq=>by simpa[gw] using q
 cases u with
|int i=>
  refine aX (aR.ite h) λd a=>?_;(apply eY g;intro _);rcases j d with rfl|rfl|rfl|rfl|rfl
  ·exact IsiPair.int_int (a.cG S rfl)
  ·exact IsiPair.int_bool (a.here S rfl)
  ·exact IsiPair.int_str (a.here S rfl)
  ·exact IsiPair.int_tuple (a.here S rfl)
  ·exact IsiPair.int_list (a.here S rfl)
|bool b=>
  refine aX (aR.ite h) λd a=>?_;(apply qv g);rcases d with rfl|rfl
  ·exact IsiPair.bool_int (a.cG S rfl)
  ·exact IsiPair.bool_bool (a.cG S rfl)
|str b=>
  refine aX (aR.ite h) λd a=>?_;(apply lq g;intro _);rcases j d with rfl|rfl|rfl|rfl|rfl
  ·exact IsiPair.str_int (a.here S rfl)
  ·exact IsiPair.str_bool (a.here S rfl)
  ·exact IsiPair.str_str (a.cG S rfl)
  ·exact IsiPair.str_tuple (a.here S rfl)
  ·exact IsiPair.str_list (a.here S rfl)
|ay k=>
  refine aX (aR.ite h) λd a=>?_;cases g with
  |ay l r=>
   refine ct (l) λo f c _=>?_;rcases j d with rfl|rfl|rfl|rfl|rfl
   ·exact IsiPair.tuple_int f c (a.here S rfl)
   ·exact IsiPair.tuple_bool f c (a.here S rfl)
   ·exact IsiPair.tuple_str f c (a.here S rfl)
   ·exact IsiPair.tuple_tuple f c (a.cG S rfl)
   ·exact IsiPair.tuple_list f c (a.here S rfl)
|ref i=>
  refine bl (aR.bind h) λk y e a=>ct (eT e) λz q m n=>?_;clear e;(clear h DH;subst m);refine jt q λp=>?_;subst p;refine bB λB v=>?_;obtain⟨d,w⟩:=aR.ite a;subst d;have zz:=S.list n g;clear g;obtain⟨C,D,rfl,_,⟨o,f,c,_⟩,r⟩:=zz;exact v (IsiPair.list_list f c (w.cG S rfl))
|_=>exact h.elim
def OQ(S:aI G J U s.heap)(c:Rel G J s.heap x u)(h:PV G (rU u U) J s Q):wpAny G.mo A (call (.type "list") [x]) Q E s:=by
 cases u with
|ay vs=>
  refine aX (aR.ite h) λa d=>?_;cases c with
  |@ay t xs _ e r=>
   obtain⟨o,f,b,n,g⟩:=e;refine call_list_seq t (.inr rfl) f b g (λj c' hk i=>?_) (by(refine(List.size_toArray)▸?_;refine(r.length)▸?_);exact iC a);exact d.newList S hk (aU _) #[_,i] r
|_=>exact h.elim
def Np(S:aI G J U s.heap)(f:Rel G J s.heap x u)(h:PV G (kn u U) J s Q):wpAny G.mo A (call (.type "tuple") [x]) Q E s:=by refine bB λp g=>bl (aR.bind h) λt v e j=>ct (eT e) λi k a l=>?_;clear e;(clear h;subst k);subst a;obtain⟨d,m⟩:=aR.ite j;refine fY (S.list l f) λw y a _ n r=>?_;clear f;subst a;refine g ?_;refine call_tuple_list n (λz hk=>?_) (by(refine(List.size_toArray)▸?_;refine(r.length)▸?_);exact iC d);refine m.grown S (λc o e=>gE _ _ (hk c o e)) (.ay #[_,Heap.get?_push_size _ rfl,rfl,_,rfl] (r.mono (λb B #[o,e,c]=>#[o,gE _ _ (hk _ _ e),c]) λ_ _ e=>e) (λq=>by obtain⟨_,o,e,_⟩:=S.lr _ q;exact absurd (Heap.lt_size (hk _ _ e)) (Nat.lt_irrefl _)))
def aR.newDict(h:PV G (dB (.az es) U) J s Q)(S:aI G J U s.heap)(hk:∀c o,s.heap.get? c=some o->h'.get? c=some o)(d:s.heap.objs.size<=a)(f:h'.DictOf (strKind G.prog G.w) a kvs)(g:kvs.map (·.1)=es.map (·.1))(r:bL G J s.heap (kvs.map (·.2)) (es.map (·.2))):Q (.ref a) {s with heap:=h',toks:=tk}:=by exact g8 (S.alloc hk (Heap.get?_none_of_le d) (o:=.az es) #[kvs,f,g,r.mono (λb l #[o,e,c]=>#[o,hk _ _ e,c]) λi b e=>by rw[List.getElem?_append_left (List.getElem?_eq_some_iff.mp e).1];exact e]) λj st k=>h (.ref a) h' tk _ st j (.ref k)
def OR(K:cP G)(S:aI G J U s.heap)(m:Rel G J s.heap x u)(h:PV G (oF u U) J s Q):wpAny G.mo A (call (.type "dict") [x]) Q E s:=by
 cases u with
|ref i=>
  refine bl (aR.bind h) λo z e f=>?_;have zz:=j8 e;clear e;obtain⟨rfl,q⟩:=zz;cases o with
  |az es=>
   refine aX (aR.ite f) λg r=>ja (S.dict q m) λa j t v w p y=>?_;clear m;subst t;have b:j.length=es.length:=by have:=congrArg List.length p;simpa using this
   exact kt_call_dict (S.wV K (List.mem_of_getElem? v)) w (by(refine b▸?_);exact iC g) λB k l=>r.newDict S (λc o e=>l.extBut c o (Nat.ne_of_lt (Heap.lt_size e)) (gE _ _ e)) (aU _) k p y
  |af vs=>exact f.elim
  |inst c d=>exact f.elim
  |dM n=>exact f.elim
|_=>exact h.elim
def OS(S:aI G J U s.heap)(m:Rel G J s.heap x u)(f:Rel G J s.heap y v)(h:PV G (joinM u v U) J s Q):
  wpAny G.mo A (call (.builtin "str.join") [x,y]) Q E s:=by
 refine bB λK n=>bl (aR.bind h) λsep L e o=>aX (EE e) λp c=>?_;clear e;(clear h;subst p);subst c;refine bl (aR.bind o) λg q j t=>ct (eT j) λi c d w=>?_;clear j;subst c;subst d;refine bl (aR.bind t) λb z a B=>n ?_;obtain⟨C,rfl⟩:strsOf g=some b/\z=q:=by
  cases hi:strsOf g with
  |none=>(replace a:=hi▸a);exact dc a
  |some k=>(replace a:=hi▸a);(apply fO a);exact#[rfl,rfl]
 obtain⟨l,D⟩:=aR.ite B;refine fY (S.list w f) λP R d _ F r=>?_;clear f;subst d;(apply lq m;intro _);refine join_list F (by simpa using r.strs C) ?_ λT k=>?_
 ·refine(l.1)▸?_;have:aJ=1000000:=rfl;have I:(b.map (·.length)).sum<=aJ:=l.2;exact bD 0x1c01c01c01e104480d3012412402412481801c91f41e338538c rfl this I
 ·have:Txt.join sep b=Str.join sep b:=StrLaws.glued_eq_join sep b;exact(this)▸D.here S (.str _ _)
end
end Qh
set_option tactic.hygienic false
namespace Qh
open PySem PyProof.Rows
section
variable{G:Gd}{A:Around}{E:bN}{s:Shared}{J aA:List Addr}{U ah:H}{h:Heap}{prog:Program}{w:World}
def K9{id:String}{b:Builtin}{args:List Value}(hk:builtinKind id=none)(d:plainId id=true)(hb:entryFor table id=some b)(a:argsOk id #[args,kw])(c:wpAny (model prog w) A.in1 (b #[args,kw]) (λfin s'=>match fin with
   |.done f=>(match (Except.ok f:Result) with|.ok (.ret v)=>Q v s'|.ok _=>False|.error e=>E e s')
   |.again c'=>c'.quiet=true/\codeAny (model prog w) A c' (λr s'=>match r with|.ok (.ret v)=>Q v s'|.ok _=>False|.error e=>E e s') s') E s):
  wpAny (model prog w) A (call (.builtin id) args kw) Q E s:=by
 refine wpAny_call (codeAny_call_builtin d hb ?_);simp only[checkBuiltinCall,hk];cases Ut:Manifest.signature? id with
|none=>exact wpAny_pure c
|some sig=>
  simp only[argsOk,Ut] at a;show wpAny _ A.in1 (Bind.checkArgs id sig #[args,kw]) _ _ s
  (refine((a))▸?_);exact wpAny_pure c
abbrev better(b v:Int):Int:=if v>b then v else b
def Mf{R:Result->Shared->Prop}{I l S:Addr}{ps:List (Int×Tok)}(hh:A.handled=none)(Y:l≠I)(Q:S≠I)(xZ:S≠l):
  ∀(k j:Nat)(s:Shared)(b:Int)(t:Tok)(c:Nat),ps.length-j=k->j<=ps.length->s.heap.IsListIter I l j->s.heap.IsList l (intItems ps.toArray)->
  s.heap.get? S=some {cls:=.type "list",dict:=none,data:=.seq (List.toArray [.int b t,.int b t]) c,slots:=(List.toArray [])}->
  (∀t' B tk,(∀a o,a≠I->a≠S->s.heap.get? a=some o->B.get? a=some o)->R (.ok (.ret (.int (((ps.drop j).map (·.1)).foldl better b) t'))) {s with heap:=B,toks:=tk})->
  codeAny (model prog w) A (.builtin "max.loop" #[[.ref I,.none,.ref S],[(Str.ofString "default",d)]]) R s:=by
 have g:(toString "max"++toString ".loop":String)="max.loop":=by decide
 intro k
 induction k with
|zero=>
  intro j s b t c hk hj r C D L;have K:ps.length<=j:=aM 0x34c20124024124804900900904920680234c rfl hk;refine codeAny_builtin PySem.F.entry_max_loop ((Around.under_plainId PySem.F.plain_max_loop _)▸?_);show wpAny _ A.in1 (seqItems? (.ref S) >>= _) _ _ s;refine wpAny_bind (wpAny_seqItems D rfl ?_);show wpAny _ A.in1 (tryCatch (pyNext (.ref I)) _ >>= _) _ _ s;refine wpAny_bind (wpAny_tryCatch (wpAny_pyNext_list_end (hh) r C (by simp[intItems];exact aM vX rfl K) λB f=>?_));have m:=f S _ Q D;show wpAny _ A.in1 (updateSeq S (λ_=>(List.toArray [])) >>= _) _ _ _;refine wpAny_bind (wpAny_updateSeq m rfl (wpAny_bind (wpAny_letGo (wpAny_pure ?_))));have:=L t (B.update S (Obj.mapSeq λ_=>(List.toArray []))) s.toks λa o u z e=>(Heap.get?_update_other _ _ (Ne.symm z)).trans (f a o u e);replace this:=(List.drop_of_length_le K)▸this;exact this
|succ k Z=>
  intro j s b t c hk hj r C D L;have p:j<ps.length:=bD 0x34184c20124124800904920606138230d rfl hk;obtain⟨v,q,hv⟩:∃v q,ps[j]=(v,q):=#[_,_,rfl];have hx:(intItems ps.toArray)[j]?=some (.int v q):=by simp[intItems,p,hv]
  refine codeAny_builtin PySem.F.entry_max_loop ((Around.under_plainId PySem.F.plain_max_loop _)▸?_);show wpAny _ A.in1 (seqItems? (.ref S) >>= _) _ _ s;refine wpAny_bind (wpAny_seqItems D rfl ?_);show wpAny _ A.in1 (tryCatch (pyNext (.ref I)) _ >>= _) _ _ s;refine wpAny_bind (wpAny_tryCatch (wpAny_pyNext_list_item r C hx λB xG f=>?_));have m:=(f.2 S Q).trans D;show wpAny _ A.in1 (tryCatch (holding [Value.int v q,Value.int v q] (richCompare .Gt (.int v q) (.int b t) >>= _)) _ >>= _) _ _ _;refine wpAny_bind (wpAny_tryCatch (wpAny_holding (wpAny_bind ?_)));have t7:(ps.drop j).map (·.1)=v::(ps.drop (j+1)).map (·.1):=by
   (refine(List.drop_eq_getElem_cons p)▸?_;refine hv▸?_);rfl
  refine CmpOf.ints_gt (λi=>if i=0 then v else b) (P:=λi y=>(i=0/\y=.int v q)∨(i=1/\y=.int b t)) (λi y hy=>?_) 0 1 _ _ _ _ _ (.inl #[rfl,rfl]) (.inr #[rfl,rfl]) ?_
  ·rcases hy with ⟨rfl,rfl⟩|⟨rfl,rfl⟩
   ·exact#[_,rfl]
   ·exact#[_,rfl]
  refine wpAny_bind (wpAny_holding (wpAny_truthy_bool ?_));refine wpAny_bind (wpAny_letGo (wpAny_pure ?_))
  by_cases hb:v>b
  ·have T:decide ((if(0:Nat)=0 then v else b)>(if(1:Nat)=0 then v else b))=true:=by simp[hb]
   refine wpAny_ite_true (by simpa using T) (wpAny_bind (wpAny_updateSeq m rfl (wpAny_bind (wpAny_letGo ?_))));refine g▸wpAny_pure #[plainId_quiet PySem.F.plain_max_loop _,Z (j+1) _ v q _ (cm (bD Fd rfl hk) (bD Fe rfl hk)) p (xG.extBut (Heap.SameBut.update ..).extBut (Ne.symm Q)) ((C.extBut f.extBut Y).extBut (Heap.SameBut.update ..).extBut (Ne.symm xZ)) (Heap.get?_update_self _ m rfl) λt' x tk X=>?_];have:=L t' x tk λa o u z e=>X a o u z ((Heap.get?_update_other _ _ (Ne.symm z)).trans ((f.2 a u).trans e));rw[t7,List.foldl_cons,show better b v=v by simp[better,hb]] at this;exact this
  ·have T:decide ((if(0:Nat)=0 then v else b)>(if(1:Nat)=0 then v else b))=false:=by simp;exact cS vX rfl (Int.not_lt.mp hb)
   refine wpAny_ite_false (by simpa using T) (wpAny_bind (wpAny_letGo ?_));refine g▸wpAny_pure #[plainId_quiet PySem.F.plain_max_loop _,Z (j+1) _ b t c (cm (bD Fd rfl hk) (bD Fe rfl hk)) p xG (C.extBut f.extBut Y) m λt' x tk X=>?_];have:=L t' x tk λa o u z e=>X a o u z ((f.2 a u).trans e);rw[t7,List.foldl_cons,show better b v=b by simp[better,hb]] at this;exact this
def KJ(a d:Value):argsOk "max" #[[a],[(Str.ofString "default",d)]]:=by unfold argsOk;kernel_rfl
def KL{l:Addr}{ps:List (Int×Tok)}{d:Value}(hh:A.handled=none)(m:s.heap.IsList l (intItems ps.toArray))(h:∀v g tk,(∀a o,s.heap.get? a=some o->g.get? a=some o)->(match ps.map (·.1) with|[]=>v=d|x::r=>∃t,v=.int (r.foldl better x) t)->Q v {s with heap:=g,toks:=tk}):
  wpAny (model prog w) A (call (.builtin "max") [.ref l] [(Str.ofString "default",d)]) Q E s:=by
 have b:(toString "max"++toString ".loop":String)="max.loop":=by decide
 have i:l<s.heap.objs.size:=let #[_,e,_]:=m;Heap.lt_size e
 refine K9 PySem.F.kind_max PySem.F.plain_max PySem.F.entry_max (KJ _ _) ?_;show wpAny _ A.in1 (Builtin.Builtins.bindParams "max" ["key","default"] 0 #[[],[(Str.ofString "default",d)]] >>= _) _ _ s;refine wpAny_bind (wpAny_of_eq (show Builtin.Builtins.bindParams "max" ["key","default"] 0 #[[],[(Str.ofString "default",d)]]=pure [none,some d] from by rfl') ?_);refine wpAny_bind (wpAny_pure ?_);refine wpAny_bind (wpAny_pyIter_list m ?_);refine wpAny_bind (wpAny_newObj_type ?_);refine b▸?_;generalize u:s.heap.push {cls:=.type "list_iterator",data:=.fields (List.toArray [.ref l,.int 0 0])}=H1;have y:H1.objs.size=s.heap.objs.size+1:=by rw[←u,Heap.size_push]
 have old:∀a o,s.heap.get? a=some o->(H1.push {cls:=.type "list",data:=.seq ([]:List Value).toArray}).get? a=some o:=λa o e=>gE _ _ (u▸gE _ _ e);have j:(H1.push {cls:=.type "list",data:=.seq ([]:List Value).toArray}).IsListIter s.heap.objs.size l 0:=#[_,gE _ _ (u▸Heap.get?_push_size _ rfl),rfl,rfl];have f:(H1.push {cls:=.type "list",data:=.seq ([]:List Value).toArray}).IsList l (intItems ps.toArray):=let #[o,e,r]:=m;#[o,old _ _ e,r]
 have C:(H1.push {cls:=.type "list",data:=.seq ([]:List Value).toArray}).get? H1.objs.size=some {cls:=.type "list",data:=.seq ([]:List Value).toArray}:=Heap.get?_push_size _ rfl;refine wpAny_pure #[plainId_quiet PySem.F.plain_max_loop _,?_];refine codeAny_builtin PySem.F.entry_max_loop ((Around.under_plainId PySem.F.plain_max_loop _)▸?_);show wpAny _ A.in1 (seqItems? (.ref H1.objs.size) >>= _) _ _ _;refine wpAny_bind (wpAny_seqItems C rfl ?_);show wpAny _ A.in1 (tryCatch (pyNext (.ref s.heap.objs.size)) _ >>= _) _ _ _;have z:H1.objs.size≠s.heap.objs.size:=by(refine y▸?_);exact Nat.succ_ne_self _
 have D:l≠s.heap.objs.size:=Nat.ne_of_lt i;have I:H1.objs.size≠l:=by(refine y▸?_);exact Nat.ne_of_gt (Nat.lt_succ_of_lt i)
 clear m;cases ps with
|nil=>
  refine wpAny_bind (wpAny_tryCatch (wpAny_pyNext_list_end (hh) j f ⋯ λg c=>?_));show wpAny _ A.in1 (rule _ >>= _) _ _ _;refine wpAny_bind (wpAny_rule (wpAny_pure ?_));exact h d g s.toks (λa o e=>c a o (Nat.ne_of_lt (Heap.lt_size e)) (old a o e)) rfl
|cons p ps=>
  obtain⟨v,q⟩:=p;refine wpAny_bind (wpAny_tryCatch (wpAny_pyNext_list_item j f (x:=.int v q) (by simp[intItems]) λg R c=>?_));have k:=(c.2 _ z).trans C;show wpAny _ A.in1 (updateSeq H1.objs.size (λ_=>(List.toArray [Value.int v q,Value.int v q])) >>= _) _ _ _;refine wpAny_bind (wpAny_updateSeq k rfl (b▸wpAny_pure #[plainId_quiet PySem.F.plain_max_loop _,Mf hh D z I _ 1 _ v q _ rfl (by simp) (R.extBut (Heap.SameBut.update ..).extBut (Ne.symm z)) ((f.extBut c.extBut D).extBut (Heap.SameBut.update ..).extBut (Ne.symm I)) (Heap.get?_update_self _ k rfl) λT B tk X=>?_]));refine h _ B tk (λa o e=>?_) #[T,rfl];have K:a≠s.heap.objs.size:=Nat.ne_of_lt (Heap.lt_size e);have L:a≠H1.objs.size:=by(refine y▸?_);exact Nat.ne_of_lt (Nat.lt_succ_of_lt (Heap.lt_size e))
  exact X a o K L ((Heap.get?_update_other _ _ (Ne.symm L)).trans ((c.2 a K).trans (old a o e)))
def OT{x d:Value}{u:V}(hh:A.handled=none)(S:aI G J U s.heap)(m:Rel G J s.heap x u)(p:Rel G J s.heap d (.int 0))(h:PV G (qh u U) J s Q):
  wpAny G.mo A (call (.builtin "max") [x] [(Str.ofString "default",d)]) Q E s:=by
 refine bl (aR.bind h) λn q e y=>ct (eT e) λi l j z=>?_;clear e;(clear h;subst l);subst j;refine bl (aR.bind y) λns L f B=>?_;obtain⟨c,o,C⟩:∃c,intsOf n=some c/\PV G (.ok (.int (se c)) q) J s Q:=by
  cases hi:intsOf n with
  |none=>(replace f:=hi▸f);exact dc f
  |some k=>(replace f:=hi▸f);(refine eR f λD F=>?_;subst D;subst F);exact#[_,rfl,B]
 refine fY (S.list z m) λP R j _ I r=>?_;clear m;subst j;refine aQ (r.ints o) λK l j=>?_;clear r;subst l;clear o;subst j;refine KL hh (by simpa[intItems] using I) λv T X hk g=>C.grown S hk ?_;cases hp:K.map (·.1) with
|nil=>(replace g:=hp▸g);subst g;(apply eY p;intro _);exact .int _ _
|cons a b=>(replace g:=hp▸g);obtain⟨t,rfl⟩:=g;exact .int _ _
end
structure bC(G:Gd)(N:List Str)(env:Env)(J:List Addr)(h:Heap)(L:aP):Prop where
 kind:env.scope.kind=.function
 glob:env.globals=mainGlobals
 blt:env.builtins=builtinsNs
 ns:∃m,h.Ns env.locals m/\∀i u x,cy L i=some u->N[i]?=some x->env.kindOf x=some .local->∃v,m x=some v/\Rel G J h v u
 cl:∀x,env.kindOf x=some .cell->∃c ov,env.cells.lookup x=some c/\h.IsCell c ov/\∀i u,cy L i=some u->N[i]?=some x->∃v,ov=some v/\Rel G J h v u
 has:∀i u,cy L i=some u->∃x,N[i]?=some x/\(env.kindOf x=some .local∨env.kindOf x=some .cell)
 apart:∀x y c,env.kindOf x=some .cell->env.kindOf y=some .cell->env.cells.lookup x=some c->env.cells.lookup y=some c->x=y
 nodup:N.Nodup
 kC:env.locals∉J
 kD:∀x c,env.kindOf x=some .cell->env.cells.lookup x=some c->c∉J
 newL:G.hb.get? env.locals=none
 jl:∀x c,env.kindOf x=some .cell->env.cells.lookup x=some c->G.hb.get? c=none
section
variable{G:Gd}{A:Around}{E:bN}{s:Shared}{J aA:List Addr}{U ah:H}{h h':Heap}{N:List Str}{env:Env}{L:aP}
def bC.step(X:bC G N env J h L)(S:aI G J U h)(st:Step J h aA h'):bC G N env aA h' L:=by
 refine aQ (X.ns) λm k z=>?_;have b:∀a o,h.get? a=some o->a∉J->a∉aA:=λa o e k q=>by
  rcases st.fresh a q with q|q
  ·exact k q
  ·(replace q:=e▸q);exact ez q
 refine#[X.kind,X.glob,X.blt,#[m,k.at λo e=>st.keep _ _ e X.kC,λi u x l p B=>?_],λx f=>?_,X.has,X.apart,X.nodup,?_,λx c f g=>?_,X.newL,X.jl]
 ·exact aQ (z i u x l p B) λv q r=>#[v,q,r.step st S]
 ·obtain⟨c,t,g,⟨o,j,w⟩,y⟩:=X.cl x f;refine#[c,t,g,#[o,st.keep _ _ j (X.kD x c f g),w],λi u l p=>?_];exact aQ (y i u l p) λv q r=>#[v,q,r.step st S]
 ·exact g9 (k) λo _ _ j _=>b _ _ j X.kC
 ·obtain⟨c',t,d,⟨o,j,w⟩,y⟩:=X.cl x f;(replace d:=g▸d);(refine d7 d λC=>?_;subst C);exact b _ _ j (X.kD x c f g)
def OU(X:bC G N env J s.heap L)(d:N[i]?=some x)(e:cy L i=some u)(h:∀v,Rel G J s.heap v u->Q v s):
  wpAny G.mo A (loadName env x) Q E s:=by
 refine aQ (X.has i u e) λx' a hk=>?_;(replace a:=d▸a);(refine d7 a λg=>?_;subst g);rcases hk with hk|hk
 ·exact aQ (X.ns) λm j k=>aQ (k i u x e d hk) λv q r=>wpAny_loadName_local X.kind hk j q (h v r)
 ·refine bB λp l=>dk (X.cl x hk) λc t n b f=>aQ (f i u e d) λv o r=>?_;clear f;subst o;exact l (wpAny_loadName_cell X.kind hk n b (h v r))
def aI.globals(S:aI G J U h)(K:cP G):∃a c,h.Ns mainGlobals a/\h.Ns builtinsNs c/\(∀f fn,G.P.fns f=some fn->G.fq f=true->a (G.fN f)=some (.ref (G.fA f)))/\
  (∀g u,G.P.consts g=some u->∃v,a (G.gN g)=some v/\Rel G J h v u)/\(∀b∈pK,a b=none/\c b=bootBuiltins b):=by refine ja (K.Hi) λa c d i j k l=>#[a,c,d.keeps S.base,i.keeps S.base,j,λg u e=>?_,l];exact aQ (k g u e) λv q r=>#[v,q,r G.res J h S.base S.mG]
def zK(K:cP G)(S:aI G J U s.heap)(X:bC G N env J s.heap L)(hk:env.kindOf x=some .globalImplicit)(a:G.P.fns f=some fn)(b:G.fq f=true)(c:G.fN f=x)(h:Q (.ref (G.fA f)) s):wpAny G.mo A (loadName env x) Q E s:=by refine ja (S.globals K) λg i d j e k l=>(loadName_read X.kind hk)▸?_;refine Calls.loadGlobal_global (by rw[X.glob];exact d) (by rw[←c];exact e f fn a b) h
def load_const(K:cP G)(S:aI G J U s.heap)(X:bC G N env J s.heap L)(hk:env.kindOf x=some .globalImplicit)(a:G.P.consts g=some u)(b:G.gN g=x)(h:∀v,Rel G J s.heap v u->Q v s):wpAny G.mo A (loadName env x) Q E s:=by refine ja (S.globals K) λe f c i j d k=>(loadName_read X.kind hk)▸?_;exact aQ (d g u a) λv q r=>Calls.loadGlobal_global (by rw[X.glob];exact c) (by rw[←b];exact q) (h v r)
def pL(K:cP G)(S:aI G J U s.heap)(X:bC G N env J s.heap L)(hk:env.kindOf x=some .globalImplicit)(a:x∈pK)(c:bootBuiltins x=some v)(h:Q v s):wpAny G.mo A (loadName env x) Q E s:=by refine ja (S.globals K) λf g d e i j b=>?_;rw[loadName_read X.kind hk];exact Calls.loadGlobal_builtin (by rw[X.glob];exact d) (b x a).1 (by rw[X.blt];exact e) (by rw[(b x a).2,c]) h
structure d5(env:Env)(J:List Addr)(h:Heap)(aA:List Addr)(h':Heap):Prop where
 pre:∃t,aA=J++t
 fresh:∀a∈aA,a∈J∨h.get? a=none
 keep:∀a o,h.get? a=some o->a∉J->a≠env.locals->(∀x,env.kindOf x=some .cell->env.cells.lookup x≠some a)->h'.get? a=some o
 mD:∀a,a∉J->h.get? a≠none->h'.get? a≠none
def Step.toS(st:Step J h aA h'):d5 env J h aA h':=#[st.pre,st.fresh,λa o e b _ _=>st.keep a o e b,λa b e q=>by
 cases e':h.get? a with
|none=>exact e e'
|some o=>(replace q:=(st.keep a o e' b)▸q);exact ez q]
def d5.refl(env:Env)(J:List Addr)(h:Heap):d5 env J h J h:=(Step.refl J h).toS
def d5.trans(x:d5 env J h aL aC)(y:d5 env aL aC eh bt):d5 env J h eh bt:=by
 refine cb (x.pre) λt i=>?_;subst i;obtain⟨j,rfl⟩:=y.pre;have c:∀a,h.get? a≠none->a∉J->a∉J++t:=λa e b q=>by
  rcases x.fresh a q with q|q
  ·exact b q
  ·exact e q
 refine#[#[t++j,by simp],λa k=>?_,λa o e b d f=>?_,λa b e=>?_]
 ·rcases y.fresh a k with q|q
  ·exact x.fresh a q
  ·by_cases g:a∈J
   ·exact .inl g
   ·refine .inr ?_;cases e:h.get? a with
    |none=>rfl
    |some o=>exact absurd q (x.mD a g (by(refine e▸?_);simp))
 ·exact y.keep a o (x.keep a o e b d f) (c a (by(refine e▸?_);simp) b) d f
 ·exact y.mD a (c a e b) (x.mD a b e)
end
section
variable{G:Gd}{A:Around}{E:bN}{s:Shared}{J aA:List Addr}{U ah:H}{h h':Heap}{N:List Str}{env:Env}{L:aP}
abbrev Own(h:Heap)(I:Addr):Prop:=∃o T,h.get? I=some o/\o.cls=.type T/\T≠"list"/\T≠"dict"/\T≠"tuple"/\∃fs,o.data=.fields fs
def Own.kr(S:aI G J U h)(x:Own h I):I∉J:=by refine bB λg a=>?_;obtain⟨o,T,e,c,b,d,_,fs,f⟩:=x;refine a ?_;exact S.kr e c b d λi j q=>by(replace q:=f▸q);cases q
def Own.oB(x:Own h I):∀a xs,IsTup h a xs->a≠I:=by rintro a xs ⟨g,b,c',_⟩ rfl;refine tY (x) λo T e c _ _ d _=>?_;(replace b:=e▸b);(refine d7 b λf=>?_;(clear b;subst f));(replace c':=c▸c');cases c';exact d rfl
def qZ(x:Own h I)(hk:∀b o,b≠I->h.get? b=some o->h'.get? b=some o):∀a xs,IsTup h a xs->IsTup h' a xs:=λa xs t=>by
 exact aQ (t) λo e c=>#[o,hk a o (x.oB a xs t) e,c]
def aI.other(S:aI G J U h)(x:Own h I)(hb:G.hb.get? I=none)(hk:∀b o,b≠I->h.get? b=some o->h'.get? b=some o):aI G J U h':=by have c:=x.kr S;refine#[λb o e=>hk b o (λq=>?_) (S.base b o e),S.len,S.nodup,S.new,λi a o d f=>(S.rep i a o d f).keeps (λg e=>hk a g (λq=>c (q▸List.mem_of_getElem? d)) e) (qZ x hk) λ_ _ e=>e,λa j=>let #[xs,t]:=S.lr a j;#[xs,qZ x hk _ _ t],S.mG];(clear c hk x;subst q);(replace e:=hb▸e);exact bR e
def aI.iY(S:aI G J U h)(g:I∉J)(hb:G.hb.get? I=none)(d:∀a xs,IsTup h a xs->a≠I)(hk:∀b o,b≠I->h.get? b=some o->h'.get? b=some o):aI G J U h':=by
 refine#[λb o e=>hk b o (λq=>?_) (S.base b o e),S.len,S.nodup,S.new,λi a o j k=>(S.rep i a o j k).keeps (λl e=>hk a l (λq=>g (q▸List.mem_of_getElem? j)) e) (λa xs t=>?_) λ_ _ e=>e,λa m=>let #[xs,t]:=S.lr a m;#[xs,let #[o,e,c]:=t;#[o,hk a o (d a xs t) e,c]],S.mG]
 ·(clear hk d g;subst q);(replace e:=hb▸e);exact bR e
 ·have f:=d a xs t;exact aQ (t) λo e c=>#[o,hk a o f e,c]
def aI.adopt(S:aI G J U h)(l:a∉J)(hb:G.hb.get? a=none)(m:jj G (J++[a]) h a o):aI G (J++[a]) (U++[o]) h/\(J++[a])[U.length]?=some a:=by
 refine#[#[S.base,by simp[S.len],List.nodup_append.mpr #[S.nodup,by simp,λx u y r=>?_],λb f=>?_,λi b v g d=>?_,S.lr,S.mG],?_]
 ·simp at r;(clear m hb;subst r);intro q;subst q;exact l u
 ·rcases List.mem_append.mp f with q|q
  ·exact S.new b q
  ·simp at q;(clear f m l;subst q);exact hb
 ·rcases Nat.lt_or_ge i J.length with k|k
  ·rw[List.getElem?_append_left k] at g;rw[List.getElem?_append_left (by(refine(S.len)▸?_);exact k)] at d;refine(S.rep i b v g d).keeps (λ_ e=>e) (λa w t=>t) λj c e=>?_;rw[List.getElem?_append_left (List.getElem?_eq_some_iff.mp e).1];exact e
  ·have p:i=J.length:=by
    have:=(List.getElem?_eq_some_iff.mp g).1;simp at this;exact cm (aM E9 rfl this) (aM vX rfl k)
   clear k;subst p;simp at g;(clear hb l;subst g);(replace d:=(S.len)▸d);simp at d;subst d;exact m
 ·(refine(S.len)▸?_);simp
def Step.adopt(st:Step dX mH J h)(c:mH.get? a=none):Step dX mH (J++[a]) h:=by
 refine cb (st.pre) λt d=>?_;clear adopt;subst d;refine#[#[t++[a],by simp],λb hb=>?_,st.keep];rcases List.mem_append.mp hb with q|q
 ·exact st.fresh b q
 ·simp at q;(clear hb;subst q);exact .inr c
def Step.other(st:Step dX mH J h)(d:mH.get? I=none)(hk:∀b o,b≠I->h.get? b=some o->h'.get? b=some o):Step dX mH J h':=
 #[st.pre,st.fresh,λa o e c=>hk a o (λq=>by(clear c hk;subst q);(replace e:=d▸e);exact bR e) (st.keep a o e c)]
def bC.other(X:bC G N env J h L)(S:aI G J U h)(x:Own h I)(hk:∀b o,b≠I->h.get? b=some o->h'.get? b=some o):bC G N env J h' L:=by
 refine aQ (X.ns) λm t z=>?_;have w:=qZ x hk;have B:env.locals≠I:=by
  intro q;refine gi (t) λo Y Z d g _=>?_;obtain⟨C,T,e,_,_,_,_,fs,f⟩:=x;(replace d:=q▸d);(replace e:=d▸e);(refine d7 e λk=>?_;(clear e;subst k));(replace f:=g▸f);cases f
 have D:∀c j,h.IsCell c j->c≠I:=by
  rintro c j ⟨o,d,g⟩ rfl;obtain⟨C,T,e,_,_,_,_,fs,f⟩:=x;(replace e:=d▸e);(refine d7 e λk=>?_;(clear e;subst k));(replace f:=g▸f);cases f
 refine#[X.kind,X.glob,X.blt,#[m,t.at λo e=>hk _ _ B e,λi u y l p F=>?_],λy K=>?_,X.has,X.apart,X.nodup,X.kC,X.kD,X.newL,X.jl]
 ·exact aQ (z i u y l p F) λv q r=>#[v,q,r.mono w λ_ _ e=>e]
 ·refine dk (X.cl y K) λc j Q a R=>aQ (a) λo d g=>#[c,j,Q,#[o,hk _ _ (D c j a) d,g],λi u l p=>?_];exact aQ (R i u l p) λv q r=>#[v,q,r.mono w λ_ _ e=>e]
inductive et(G:Gd)(J:List Addr)(h:Heap)(I:Addr):Src->Nat->Prop
|live {i:Nat}{a:Addr}{k:Nat}:J[i]?=some a->h.IsListIter I a k->et G J h I (.live i) k
|ay {t:Addr}{xs:List Value}{vs:List V}{k:Nat}:IsTup h t xs.toArray->bL G J h xs vs->IsTupIter h I t k->et G J h I (.fix vs) k
|range {n:Nat}{k:Nat}:k<=n->IsRangeIter h I (k:Int) ((n:Int)-(k:Int)) 1->et G J h I (.fix (d9 n)) k
|str {x:Str}{t:Tok}{k:Nat}:h.IsStrIter I "str_ascii_iterator" x t k->et G J h I (.fix (kZ x)) k
def et.own(x:et G J h I sr k):Own h I:=by
 cases x with
|live _ q=>obtain⟨o,e,c,d⟩:=q;exact#[o,_,e,c,∅,∅,∅,_,d]
|ay _ _ q=>obtain⟨o,e,c,d⟩:=q;exact#[o,_,e,c,∅,∅,∅,_,d]
|range _ q=>exact#[_,_,q,rfl,∅,∅,∅,_,rfl]
|str q=>obtain⟨o,e,c,d⟩:=q;exact#[o,_,e,c,∅,∅,∅,_,d]
def et.mono(x:et G J h I sr k)(d:∀o,h.get? I=some o->h'.get? I=some o)(hk:∀a xs,IsTup h a xs->IsTup h' a xs)(f:∀(i:Nat)(a:Addr),J[i]?=some a->aA[i]?=some a):et G aA h' I sr k:=by
 cases x with
|live e q=>obtain⟨o,b,c⟩:=q;exact .live (f _ _ e) #[o,d _ b,c]
|ay t r q=>obtain⟨o,b,c⟩:=q;exact .ay (hk _ _ t) (r.mono hk f) #[o,d _ b,c]
|range l q=>exact .range l (d _ q)
|str q=>obtain⟨o,b,c⟩:=q;exact .str #[o,d _ b,c]
def et.step(x:et G J h I sr k)(S:aI G J U h)(st:Step J h aA h'):et G aA h' I sr k:=
 x.mono (λo e=>st.keep _ _ e (x.own.kr S)) (st.ay S) λ_ _ e=>st.get e
def LF(n k:Nat):(d9 (n:Int))[k]?=if k<n then some (.int k) else none:=by
 unfold d9
 by_cases hk:k<n
 ·simp[hk]
 ·simp[hk]
def tL(hh:A.handled=none)(S:aI G J U s.heap)(X:et G J s.heap I sr k)(e:ea sr k U=.ok r aw)(h:∀x h' tk,(∀b o,b≠I->s.heap.get? b=some o->h'.get? b=some o)->(match r with|none=>x=none|some u=>∃v,x=some v/\Rel G J h' v u/\et G J h' I sr (k+1))->Q x {s with heap:=h',toks:=tk}):
  aw=U/\wpAny G.mo A (pyNext (.ref I)) Q E s:=by
 have Y:=X.own;cases X with
|@live i a k Z q=>
  refine bl (eJ e) λy ah l z=>ct (eT l) λj f aW l=>?_;(clear tL;(clear e;subst aW));refine jt f λg=>?_;subst g;refine eR z λg m=>?_;subst g;subst m;refine aQ (S.rep _ _ _ Z l) λB C w=>?_;have hl:=C.isList;refine#[rfl,?_];cases hv:y[k]? with
  |none=>
   have p:B.toArray[k]?=none:=by
    have D:=List.getElem?_eq_none_iff.mp hv;have F:=w.length;simp;exact bD Ff rfl D F
   refine wpAny_pyNext_list_end hh q hl p λh' hk=>h none h' s.toks (λb o hb e=>hk b o hb e) ?_;refine hv▸?_;with_reducible rfl
  |some u=>
   exact aQ (w.get hv) λx p K=>wpAny_pyNext_list_item q hl (by simpa using p) λh' f d=>h (some x) h' s.toks (λb o hb e=>(d.2 b hb).trans e) (hv▸#[x,rfl,K.mono (qZ Y λb o hb e=>(d.2 b hb).trans e) λ_ _ e=>e,.live Z f])
|@ay t B y k R w q=>
  refine eR e λg m=>?_;(clear e;subst g);subst m;refine#[rfl,?_];cases hv:y[k]? with
  |none=>
   have p:B.toArray[k]?=none:=by
    have D:=List.getElem?_eq_none_iff.mp hv;have F:=w.length;simp;exact bD Ff rfl D F
   refine next_tuple_end hh q R p λh' hk=>h none h' s.toks (λb o hb e=>hk b o hb e) ?_;refine hv▸?_;with_reducible rfl
  |some u=>
   refine aQ (w.get hv) λx p K=>next_tuple_item q R (by simpa using p) λh' f d=>h (some x) h' s.toks (λb o hb e=>(d.2 b hb).trans e) ?_;have T:=qZ Y λb o hb e=>(d.2 b hb).trans e;exact(hv)▸#[x,rfl,K.mono T λ_ _ e=>e,.ay (T _ _ R) (w.mono T λ_ _ e=>e) f]
|@range n k hkn q=>
  refine eR e λg m=>?_;(clear e;subst g);subst m;refine#[rfl,?_];rw[LF] at h
  by_cases hk:k<n
  ·replace h:=(if_pos hk)▸h;refine wpAny_pyNext_range_item q (cS 0x8d30186004904920530184d rfl (Int.ofNat_lt.mpr hk)) λh' f d=>h (some (.int k s.toks)) h' (s.toks+1) (λb o hb e=>(d.2 b hb).trans e) #[_,rfl,.int _ _,.range hk ?_];have l:(k:Int)+1=((k+1:Nat):Int):=by lia
   have z:(n:Int)-(k:Int)-1=(n:Int)-((k+1:Nat):Int):=Int.le_antisymm (cD 0x8e30284234c04904920638184d rfl l) (cD 0xa108e30234c04900904920634184e rfl l);(replace f:=z▸(l▸f));exact f
  ·replace h:=(if_neg hk)▸h;exact wpAny_pyNext_range_end hh q (cS 0x80234c04904920534c rfl (Int.ofNat_le.mpr (Nat.not_lt.mp hk))) λh' d=>h none h' s.toks (λb o hb e=>d b o hb e) rfl
|@str x t k q=>
  refine eR e λg m=>?_;(clear e;subst g);subst m;refine#[rfl,?_];have hg:(kZ x)[k]?=x.cps[k]?.map λc=>V.str #[(List.toArray [c])]:=by unfold kZ;rw[List.getElem?_map,Array.getElem?_toList]
  cases hc:x.cps[k]? with
  |none=>
   refine wpAny_pyNext_ascii_end hh q hc λh' d=>h none h' s.toks (λb o hb e=>d b o hb e) ?_;rw[hg,hc];rfl
  |some c=>
   refine wpAny_pyNext_ascii_item q hc λh' f d=>h _ h' (s.toks+1) (λb o hb e=>(d.2 b hb).trans e) ?_;rw[hg,hc];exact#[_,rfl,.str _ _,.str f]
def OV(a:et G J s.heap I sr k)(h:Q (.ref I) s):wpAny G.mo A (pyIter (.ref I)) Q E s:=by
 cases a with
|live _ q=>exact wpAny_pyIter_listiter q h
|ay b _ q=>exact wpAny_pyIter_tupleiter q h
|range _ q=>exact wpAny_pyIter_rangeiter q h
|str q=>exact wpAny_pyIter_striter_ascii q h
def kU(S:aI G J U s.heap)(f:Rel G J s.heap x u)(e:srcOf u U=.ok sr aw)(h:∀I h',s.heap.objs.size<=I->(∀b o,s.heap.get? b=some o->h'.get? b=some o)->et G J h' I sr 0->Q (.ref I) {s with heap:=h'}):aw=U/\wpAny G.mo A (pyIter x) Q E s:=by
 cases u with
|ref i=>
  refine bl (eJ e) λp ah g v=>ct (eT g) λj w k g=>?_;clear e kU;subst k;refine jt w λc=>?_;subst c;refine eR v λc d=>?_;subst c;subst d;refine fY (S.list g f) λa C k y B r=>?_;clear f;subst k;refine#[rfl,wpAny_pyIter_list B (h _ _ (aU _) gE (.live y #[_,Heap.get?_push_size _ rfl,rfl,rfl]))]
|ay p=>
  refine eR e λc d=>?_;(clear e;subst c);subst d;cases f with
  |ay m r=>
   refine#[rfl,iter_tuple m (h _ _ (aU _) gE (.ay (m.keeps gE) (r.mono (λb D t=>t.keeps gE) λ_ _ e=>e) #[_,Heap.get?_push_size _ rfl,rfl,rfl]))]
|str z=>
  by_cases l:z.cps.all (· < 128)=true
  ·have e:(if z.cps.all (· < 128) then M.pure (.fix (kZ z)) else M.fail:M Src) U=.ok sr aw:=e;rw[if_pos l] at e;refine eR e λc d=>?_;(clear e;subst c);subst d;refine mz f λt q=>?_;subst q;exact#[rfl,wpAny_pyIter_ascii l (h _ _ (aU _) gE (.str #[_,Heap.get?_push_size _ rfl,rfl,rfl]))]
  ·have e:(if z.cps.all (· < 128) then M.pure (.fix (kZ z)) else M.fail:M Src) U=.ok sr aw:=e;rw[if_neg l] at e;exact dc e
|_=>exact dc e
end
abbrev Gd.ctx(G:Gd)(n:Nat):Ctx:=#[G.script,G.P.consts,av G.P G.script n,G.P.fC,G.P.qg]
structure Ao(A:Around)(n:Nat):Prop where
 hh:A.handled=none
 room:A.depth+n+4<=recursionLimit
 units:A.units+3*n+200<=cLine
def Ao.x6(x:Ao A n):A.units+64<cLine:=by have:=x.units;exact bD 0x34184100784c0490492053412078c110e8cc rfl this
section
variable(G:Gd)(n:Nat)(A:Around)(N:List Str)(env:Env)
abbrev a9(x:E)(e:au):Prop:=∀(s:Shared)(J:List Addr)(U:H)(L:aP)(Q:bN)(E:bN),bC G N env J s.heap L->aI G J U s.heap->
 PV G (aj (G.ctx n) x L U) J s Q->wpAny G.mo A (eval e env) Q E s
abbrev ip(x:E)(e:au):Prop:=∀(s:Shared)(J:List Addr)(U:H)(L:aP)(Q:Bool->Shared->Prop)(E:bN),bC G N env J s.heap L->aI G J U s.heap->
 PB G (bQ (G.ctx n) x L U) J s Q->wpAny G.mo A (isTrue e env (eval e env)) Q E s
abbrev gB(es:EL)(l:List au):Prop:=∀(pos:Pos)(s:Shared)(J:List Addr)(U:H)(L:aP)(Q:List Value->Shared->Prop)(E:bN),bC G N env J s.heap L->aI G J U s.heap->
 PL G (dC (G.ctx n) es L U) J s Q->wpAny G.mo A (spliced (backTo pos (starEach l env))) Q E s
abbrev rV(a:BoolOp)(es:EL)(l:List au):Prop:=∀(pos:Pos)(s:Shared)(J:List Addr)(U:H)(L:aP)(Q:bN)(E:bN),bC G N env J s.heap L->aI G J U s.heap->
 PV G ((match a with|.And=>oG (G.ctx n) es L|.Or=>oS (G.ctx n) es L) U) J s Q->wpAny G.mo A (boolOp pos a (evalEach l env)) Q E s
abbrev rW(a:BoolOp)(es:EL)(l:List au):Prop:=∀(s:Shared)(J:List Addr)(U:H)(L:aP)(Q:Bool->Shared->Prop)(E:bN),bC G N env J s.heap L->aI G J U s.heap->
 PB G ((match a with|.And=>kx (G.ctx n) es L|.Or=>ky (G.ctx n) es L) U) J s Q->wpAny G.mo A (allTrue a l env) Q E s
abbrev k8:Prop:=∀(A:Around),Ao A n->∀(f:Nat),G.P.fC (f+1)≠2->∀(vs:List V)(vals:List Value)(s:Shared)(J:List Addr)(U:H)(Q:bN)(E:bN),aI G J U s.heap->bL G J s.heap vals vs->
 PV G (av G.P G.script n f vs U) J s Q->wpAny G.mo A (call (.ref (G.fA f)) vals) Q E s
end
abbrev jb(G:Gd):Prop:=∀f fn,G.P.fns f=some fn->∃o fd,G.hb.get? (G.fA f)=some o/\o.data=.func fd
section
variable{G:Gd}{n:Nat}{A:Around}{N:List Str}{env:Env}
def a9.then{x:E}{e:au}(i:a9 G n A N env x e){s:Shared}{J:List Addr}{U:H}{L:aP}{α g:Type}{R:List Addr->Heap->g->α->Prop}{f:V->M α}{Q:g->Shared->Prop}{d:bN}{E:bN}(X:bC G N env J s.heap L)(S:aI G J U s.heap)(h:aR G R (M.bind (aj (G.ctx n) x L) f U) J s Q)(k:∀v a tk b c u,bC G N env b a L->aI G b c a->Step J s.heap b a->Rel G b a v u->aR G R (f u c) b {s with heap:=a,toks:=tk} Q->d v {s with heap:=a,toks:=tk}):
  wpAny G.mo A (eval e env) d E s:=by exact bl (aR.bind h) λu c j l=>i s J U L d E X S (j▸λv a tk b st m r=>k v a tk b c u (X.step S st) m st r (l.step st))
def ip.then{x:E}{e:au}(j:ip G n A N env x e){s:Shared}{J:List Addr}{U:H}{L:aP}{α i:Type}{R:List Addr->Heap->i->α->Prop}{f:Bool->M α}{Q:i->Shared->Prop}{g:Bool->Shared->Prop}{E:bN}(X:bC G N env J s.heap L)(S:aI G J U s.heap)(h:aR G R (M.bind (bQ (G.ctx n) x L) f U) J s Q)(k:∀b a tk c d,bC G N env c a L->aI G c d a->Step J s.heap c a->aR G R (f b d) c {s with heap:=a,toks:=tk} Q->g b {s with heap:=a,toks:=tk}):
  wpAny G.mo A (isTrue e env (eval e env)) g E s:=by refine bl (aR.bind h) λu d l m=>j s J U L g E X S (l▸?_);rintro v a tk c st o rfl;exact k v a tk c d (X.step S st) o st (m.step st)
def gB.then{x:EL}{l:List au}(g:gB G n A N env x l){pos:Pos}{s:Shared}{J:List Addr}{U:H}{L:aP}{α e:Type}{R:List Addr->Heap->e->α->Prop}{f:List V->M α}{Q:e->Shared->Prop}{d:List Value->Shared->Prop}{E:bN}(X:bC G N env J s.heap L)(S:aI G J U s.heap)(h:aR G R (M.bind (dC (G.ctx n) x L) f U) J s Q)(k:∀v a tk b c u,bC G N env b a L->aI G b c a->Step J s.heap b a->bL G b a v u->aR G R (f u c) b {s with heap:=a,toks:=tk} Q->d v {s with heap:=a,toks:=tk}):
  wpAny G.mo A (spliced (backTo pos (starEach l env))) d E s:=by exact bl (aR.bind h) λu c i j=>g pos s J U L d E X S (i▸λv a tk b st m r=>k v a tk b c u (X.step S st) m st r (j.step st))
def OW:a9 G n A N env .none (.Constant .none k p):=λs J U L Q E X S h=>wpAny_pure (h.cG S .none)
def OX:a9 G n A N env (.bool b) (.Constant (.bool b) k p):=λs J U L Q E X S h=>wpAny_pure (h.cG S (.bool b))
def Gq:a9 G n A N env (.int i) (.Constant (.int i) k p):=λs J U L Q E X S h=>wpAny_mkInt (h.here S (.int _ _))
def Rg:a9 G n A N env (.str x) (.Constant (.str x) k p):=λs J U L Q E X S h=>wpAny_mkText (h.here S (.str _ _))
def z7(a:N[i]?=some x)(b:(x==("__debug__":Str))=false):a9 G n A N env (.aa i) (.Name x p):=λs J U L Q E X S h=>by
 exact aQ (aR.dD h) λu c d=>wpAny_Name (OU X a c λv r=>d.cG S r) b
def OY(K:cP G)(a:G.gN g=x)(hk:env.kindOf x=some .globalImplicit)(b:(x==("__debug__":Str))=false):a9 G n A N env (.glob g) (.Name x p):=λs J U L Q E X S h=>by
 exact aQ (aR.dD h) λu c d=>wpAny_Name (load_const K S X hk c a λv r=>d.cG S r) b
def Rh{es:EL}{l:List au}{k:Nat}{p:Pos}(b:gB G n A N env es l):a9 G n A N env (.ay es) (.Tuple l k p):=λs J U L Q E X S h=>
 Tuple_ (b.then X S h λv f g i j u m c st r d=>by
  obtain⟨a,e⟩:=aR.ite d
  exact wpAny_newTuple (e.z0 c r) (by(refine(r.length)▸?_);exact iC a))
def Gs{es:EL}{l:List au}{p:Pos}(b:gB G n A N env es l):a9 G n A N env (.af es) (.List l p):=λs J U L Q E X S h=>
 List_ (b.then X S h λv f g i j u k c st r d=>by
  obtain⟨a,e⟩:=aR.ite d
  exact wpAny_newList (e.z5 c r) (by(refine(r.length)▸?_);exact iC a))
def Gu:gB G n A N env .nil []:=λa s J U L Q E X S h=>args_nil (h.cG S .nil)
def OZ{x:E}{e:au}(b:a9 G n A N env x e)(c:gB G n A N env es l)(d:starEach (e::l) env=(false,eval e env)::starEach l env):gB G n A N env (.cons x es) (e::l):=λf s J U L Q E X S h=>
 args_cons (b.then X S h λv p q t w u g a st r i=>c.then g a i λy z B C D F I j k m o=>o.cG j (.cons (r.step k a) m)) d
def Ri(d:a9 G n A N env a l)(e:a9 G n A N env b r):a9 G n A N env (.ak op a b) (.BinOp l op r p):=λs J U L Q E X S h=>
 wpAny_BinOp (d.then X S h λv o q t w u f c st r g=>e.then f c g λv' x y z B C D i j k m=>Nj i (r.step j c) k m)
def Rj{a:E}{l:au}{p:Pos}(c:a9 G n A N env a l):a9 G n A N env (.neg a) (.UnaryOp .USub l p):=λs J U L Q E X S h=>
 wpAny_UnaryOp (c.then X S h λv k m o q u t d st r b=>by
  refine bl (aR.bind b) λi w e f=>aX (j5 e) λg j=>?_;clear e;(clear b;subst g);subst j
  exact Q9 d r f)
def aR.Az(h:PV G (M.bind m (λr=>M.pure (.bool r)) U) J s Q):qI G (m U) J s Q:=by refine bl (aR.bind h) λb g e a=>(e)▸?_;rintro v c d f st S rfl;exact a _ c d f st S (.bool _)
def Rk(K:cP G)(Y:Ao A n)(d:a9 G n A N env a l)(e:a9 G n A N env b r)(f:behindInMarks op r=false):a9 G n A N env (.cmp op a b) (.Compare l [op] [r] p):=λs J U L Q E X S h=>
 wpAny_Compare1 (d.then X S h λv q t w x u g c st r i=>e.then g c i λv' y z B C D F j k m o=>th K Y.x6 j (r.step k c) m o.Az) f
def O0{g d:CmpOp}{a b c:E}{l i j:au}{p:Pos}(K:cP G)(Y:Ao A n)(z:a9 G n A N env a l)(hb:a9 G n A N env b i)(B:a9 G n A N env c j)(C:lastMarks [g,d] [i,j]=false):a9 G n A N env (.jh g d a b c) (.Compare l [g,d] [i,j] p):=λs J U L Q E X S h=>
 Compare_chain (z.then X S h λv aC tk aL aw u D x st r F=>chain_link (hb.then D x F λv' bt cJ eh bP u' I k P y R=>by
  refine th K Y.x6 k (r.step P x) y (bl (aR.bind R) λt eE e f=>(e)▸?_);rintro w dF T fS m o rfl;refine wpAny_truthy_bool ?_;have Z:=I.step k m;have A2:=y.step m k;have f:=aR.step (tk:=T) f m;cases t with
  |false=>exact f.cG o (.bool false)
  |true=>exact chain_last (B.then Z o f λv'' ey jc oH iJ WK jm ia jd q h4=>th K Y.x6 ia (A2.step jd o) q h4.Az))) C
def Nq{a:CmpOp}{x y:Value}{u v:V}{s:Shared}{J:List Addr}{U:H}{E:bN}(K:cP G)(Y:Ao A n)(S:aI G J U s.heap)(d:Rel G J s.heap x u)(f:Rel G J s.heap y v)(h:PB G (dh a u v U) J s Q):wpAny G.mo A (compareOp a x y) (λc g=>wpAny G.mo A (truthy c) Q E g) E s:=by
 refine th K Y.x6 S d f ?_;cases e:dh a u v U with
|ok b i=>(replace h:=e▸h);rintro c j k l st m rfl;exact wpAny_truthy_bool (h b j k l st m rfl)
|aF c i=>(replace h:=e▸h);exact h
|bad=>(replace h:=e▸h);exact h
def O1(K:cP G)(Y:Ao A n)(d:a9 G n A N env a l)(e:a9 G n A N env b r)(f:behindInMarks op r=false):ip G n A N env (.cmp op a b) (.Compare l [op] [r] p):=λs J U L Q E X S h=>
 wpAny_isTrue_Compare1 (d.then X S h λv q t w x u g c st r i=>e.then g c i λv' y z B C D F j k m o=>Nq K Y j (r.step k c) m o) f
def O2(c:ip G n A N env a l):ip G n A N env (.not a) (.UnaryOp .Not l p):=λs J U L Q E X S h=>
 wpAny_isTrue_Not (c.then X S h λb f g i j k d st e=>e.cG d rfl)
def Rl{a:E}{l:au}{p:Pos}(d:a9 G n A N env a l):a9 G n A N env (.not a) (.UnaryOp .Not l p):=λs J U L Q E X S h=>
 wpAny_UnaryOp (d.then X S h λv k m o q u t f st r c=>by
  refine bl (aR.bind c) λb w e g=>aX (sV e) λi j=>?_;clear e;(clear c;subst i);subst j;(apply qv r)
  exact not_of (wpAny_truthy_bool (g.cG f (.bool _))))
def wI(d:a9 G n A N env x e)(a:∀L U,bQ (G.ctx n) x L U=M.bind (aj (G.ctx n) x L) eg U)(f:isTrue e env (eval e env)=(do let v ←eval e env;standAt e.pos;holding [v] (truthy v))):ip G n A N env x e:=λs J U L Q E X S h=>by
 refine f▸?_;rw[a] at h;refine wpAny_bind (d.then X S h λv i j k l u m g st r c=>?_);cases u with
|bool b=>(apply qv r);exact wpAny_bind (wpAny_standAt (wpAny_holding (wpAny_truthy_bool (c.cG g rfl))))
|_=>exact c.elim
def z8(K:cP G)(c:a9 G n A N env a l)(d:a9 G n A N env i r)(e:∀l u p,r≠.Slice l u none p):a9 G n A N env (.aq a i) (.Subscript l r p):=λs J U L Q E X S h=>
 Subscript_ (c.then X S h λv q t w x u f b st r g=>d.then f b g λv' y z B C D F j k m o=>zd K rfl j (r.step k b) m e o)
abbrev wX(G:Gd)(n:Nat)(A:Around)(N:List Str)(env:Env)(x:E)(e:Option au):Prop:=match e with
|none=>x=.none
|some e=>a9 G n A N env x e
def wX.then{x:E}{e:Option au}(d:wX G n A N env x e){s:Shared}{J:List Addr}{U:H}{L:aP}{α g:Type}{R:List Addr->Heap->g->α->Prop}{f:V->M α}{Q:g->Shared->Prop}{i:bN}{E:bN}(X:bC G N env J s.heap L)(S:aI G J U s.heap)(h:aR G R (M.bind (aj (G.ctx n) x L) f U) J s Q)(k:∀v a tk b c u,bC G N env b a L->aI G b c a->Step J s.heap b a->Rel G b a v u->aR G R (f u c) b {s with heap:=a,toks:=tk} Q->i v {s with heap:=a,toks:=tk}):
  wpAny G.mo A (evalPart e env) i E s:=by
 cases e with
|none=>
  subst (d);rw[evalPart_none];refine bl (aR.bind h) λu c j l=>eR j λm o=>?_;subst m;subst o;exact wpAny_pure (k .none s.heap s.toks J _ _ X S (Step.refl _ _) .none l)
|some e=>rw[evalPart_some];exact a9.then d X S h k
def Rm{a j k:E}{l:au}{b d:Option au}{p p':Pos}(w:a9 G n A N env a l)(x:wX G n A N env j b)(y:wX G n A N env k d):a9 G n A N env (.slc a j k) (.Subscript l (.Slice b d none p') p):=λs J U L Q E X S h=>
 Subscript_ (w.then X S h λv Z tk aL aw u z m st r B=>wpAny_Slice (x.then z m B λC bt cJ eh bP ul D i F I K=>y.then D i K λR q fk fS eE uu gf e t T Y=>by
  rw[evalPart_none];refine wpAny_pure ?_;have g:∀c o,q.get? c=some o->(q.push {cls:=.type "slice",data:=.fields (List.toArray [C,R,.none])}).get? c=some o:=gE;have f:=Step.grow e g
  exact vM (e.grow g) (((r.step F m).step t i).step f e) ((I.step t i).step f e) (T.step f e) (Heap.IsSliceOf.new ..) (aR.step Y f)))
end
section
variable{G:Gd}{n:Nat}{A:Around}{N:List Str}{env:Env}
def vm(e:av P sc n f vs U=.ok r aw):∃fn m,P.fns f=some fn/\n=m+1:=by
 cases n with
|zero=>exact dc e
|succ m=>
  simp only[av] at e;cases hf:P.fns f with
  |none=>(replace e:=hf▸e);exact dc e
  |some fn=>exact#[fn,m,rfl,rfl]
def PV.some(h:PV G r J s Q):∃v a,r=.ok v a:=by
 cases r with
|ok v a=>exact#[v,a,rfl]
|aF c a=>exact h.elim
|bad=>exact h.elim
def FH(K:cP G)(F:jb G)(Y:Ao A n)(C:k8 G n)(nt:G.P.fC (f+1)≠2)(i:gB G n A N env es (e::args))(j:G.fN f=x)(k:G.fq f=true)(hk:env.kindOf x=some .globalImplicit)(l:(x==("__debug__":Str))=false)(q:starEach (e::args) env=(false,eval e env)::starEach args env):a9 G n A N env (.call f es) (.Call (.Name x p') (e::args) [] p):=λs J U L Q E X S h=>by
 refine bB λB t=>bl (aR.bind h) λD c I b=>fD (PV.some b) λr R w=>bl (vm w) λfn m d _=>bl (F f fn d) λo T y a=>t (wpAny_Call_NameR (wpAny_Name (zK K S X hk d k j ?_) l));refine callWith_def a (i.then X S h λv Z tk z c u bu g st r b=>#[g.base _ _ y,C A Y f nt u v _ z c Q E g r b]) q
def pW(K:cP G)(f:a9 G n A N env a e)(b:∀L U,aj (G.ctx n) mI L U=M.bind (aj (G.ctx n) a L) op U)(hk:env.kindOf x=some .globalImplicit)(g:x∈pK)(i:bootBuiltins x=some v)(j:(x==("__debug__":Str))=false)(c:starEach [e] env=[(false,eval e env)])(hb:(∃id,v=.builtin id)∨∃T,v=.type T)(d:∀(s:Shared)(J:List Addr)(U:H)(y:Value)(u:V)(Q:bN)(E:bN),aI G J U s.heap->Rel G J s.heap y u->PV G (op u U) J s Q->wpAny G.mo A (call v [y]) Q E s):
  a9 G n A N env mI (.Call (.Name x p') [e] [] p):=λs J U L Q E X S h=>by
 rw[b] at h;refine wpAny_Call_NameR (wpAny_Name (pL K S X hk g i ?_) j);have args:wpAny G.mo A (spliced (backTo p (starEach [e] env))) (λk l=>wpAny G.mo A (call v k) Q E l) E s:=
  args_cons (f.then X S h λy w z m o u B q st r t=>args_nil (d _ m o y u Q E q r t)) c
 rcases hb with ⟨id,rfl⟩|⟨T,rfl⟩
 ·exact callWith_builtin1 args c rfl
 ·exact callWith_type1 args c rfl
def boot_len:bootBuiltins "len"=some (.builtin "len"):=by decide+kernel
def boot_int:bootBuiltins "int"=some (.type "int"):=by decide+kernel
def boot_bool:bootBuiltins "bool"=some (.type "bool"):=by decide+kernel
def boot_str:bootBuiltins "str"=some (.type "str"):=by decide+kernel
def boot_sum:bootBuiltins "sum"=some (.builtin "sum"):=by decide+kernel
def boot_max:bootBuiltins "max"=some (.builtin "max"):=by decide+kernel
def boot_isinstance:bootBuiltins "isinstance"=some (.builtin "isinstance"):=by decide+kernel
def boot_list:bootBuiltins "list"=some (.type "list"):=by decide+kernel
def boot_tuple:bootBuiltins "tuple"=some (.type "tuple"):=by decide+kernel
def boot_dict:bootBuiltins "dict"=some (.type "dict"):=by decide+kernel
def boot_range:bootBuiltins "range"=some (.type "range"):=by decide+kernel
def Rn(K:cP G)(b:a9 G n A N env a e)(hk:env.kindOf "len"=some .globalImplicit)(c:starEach [e] env=[(false,eval e env)]):a9 G n A N env (.len a) (.Call (.Name "len" p') [e] [] p):=
 pW K b (λ_ _=>rfl) hk (by decide+kernel) boot_len (by decide+kernel) c (.inl #[_,rfl]) λs J U y u Q E S r h=>Rd K rfl S r h
def Nr(K:cP G)(b:a9 G n A N env a e)(hk:env.kindOf "int"=some .globalImplicit)(c:starEach [e] env=[(false,eval e env)]):a9 G n A N env (.toInt a) (.Call (.Name "int" p') [e] [] p):=
 pW K b (λ_ _=>rfl) hk (by decide+kernel) boot_int (by decide+kernel) c (.inr #[_,rfl]) λs J U y u Q E S r h=>Nl S r h
def Nt(K:cP G)(b:a9 G n A N env a e)(hk:env.kindOf "str"=some .globalImplicit)(c:starEach [e] env=[(false,eval e env)]):a9 G n A N env (.toStr a) (.Call (.Name "str" p') [e] [] p):=
 pW K b (λ_ _=>rfl) hk (by decide+kernel) boot_str (by decide+kernel) c (.inr #[_,rfl]) λs J U y u Q E S r h=>Nm S r h
def Ro(K:cP G)(Y:Ao A n)(b:a9 G n A N env a e)(hk:env.kindOf "sum"=some .globalImplicit)(c:starEach [e] env=[(false,eval e env)]):a9 G n A N env (.sum a) (.Call (.Name "sum" p') [e] [] p):=
 pW K b (λ_ _=>rfl) hk (by decide+kernel) boot_sum (by decide+kernel) c (.inl #[_,rfl]) λs J U y u Q E S r h=>Rf Y.hh S r h
def O3(K:cP G)(b:a9 G n A N env a e)(hk:env.kindOf "list"=some .globalImplicit)(c:starEach [e] env=[(false,eval e env)]):a9 G n A N env (.list a) (.Call (.Name "list" p') [e] [] p):=
 pW K b (λ_ _=>rfl) hk (by decide+kernel) boot_list (by decide+kernel) c (.inr #[_,rfl]) λs J U y u Q E S r h=>OQ S r h
def Nu(K:cP G)(b:a9 G n A N env a e)(hk:env.kindOf "tuple"=some .globalImplicit)(c:starEach [e] env=[(false,eval e env)]):a9 G n A N env (.tuple a) (.Call (.Name "tuple" p') [e] [] p):=
 pW K b (λ_ _=>rfl) hk (by decide+kernel) boot_tuple (by decide+kernel) c (.inr #[_,rfl]) λs J U y u Q E S r h=>Np S r h
def O4(K:cP G)(b:a9 G n A N env a e)(hk:env.kindOf "dict"=some .globalImplicit)(c:starEach [e] env=[(false,eval e env)]):a9 G n A N env (.dict a) (.Call (.Name "dict" p') [e] [] p):=
 pW K b (λ_ _=>rfl) hk (by decide+kernel) boot_dict (by decide+kernel) c (.inr #[_,rfl]) λs J U y u Q E S r h=>OR K S r h
def O5(K:cP G)(Y:Ao A n)(g:a9 G n A N env a e)(i:a9 G n A N env b e')(hk:env.kindOf "max"=some .globalImplicit)(d:starEach [e,e'] env=(false,eval e env)::starEach [e'] env)(c:starEach [e'] env=[(false,eval e' env)]):a9 G n A N env (.max2 a b) (.Call (.Name "max" p') [e,e'] [] p):=λs J U L Q E X S h=>by
 refine wpAny_Call_NameR (wpAny_Name (pL K S X hk (by decide+kernel) boot_max ?_) (by decide+kernel));refine callWith_builtin1 (args_cons (g.then X S h λy t v w x u j f st r k=>args_cons (i.then j f k λz B C D F I P l m o q=>args_nil (OP Y.hh l (r.step m f) o q)) c) d) d (by(refine c▸?_);rfl)
def DI(K:cP G)(d:a9 G n A N env a e)(hk:env.kindOf "isinstance"=some .globalImplicit)(f:env.kindOf (Str.ofString t)=some .globalImplicit)(g:Str.ofString t∈pK)(hb:bootBuiltins (Str.ofString t)=some (.type t))(i:(Str.ofString t==("__debug__":Str))=false)(b:starEach [e,.Name (Str.ofString t) p''] env=(false,eval e env)::starEach [.Name (Str.ofString t) p''] env):a9 G n A N env (.d0 t a) (.Call (.Name "isinstance" p') [e,.Name (Str.ofString t) p''] [] p):=λs J U L Q E X S h=>by
 refine wpAny_Call_NameR (wpAny_Name (pL K S X hk (by decide+kernel) boot_isinstance ?_) (by decide+kernel));refine callWith_builtin1 (args_cons (d.then X S h λy l m o q u j c st r k=>args_cons (wpAny_Name (pL K c j f g hb (args_nil ?_)) i) rfl) b) b rfl;exact DH c r k.Az
def O6(K:cP G)(Y:Ao A n)(c:a9 G n A N env a e)(hk:env.kindOf "max"=some .globalImplicit)(b:starEach [e] env=[(false,eval e env)]):
  a9 G n A N env (.hY a) (.Call (.Name "max" p') [e] [#[some "default",.Constant (.int 0) k p'',kp]] p):=λs J U L Q E X S h=>by
 show wpAny _ A (do callWith p (←eval (.Name "max" p') env) [] (backTo p (starEach [e] env)) (backToKw p (keywordEach [#[some "default",.Constant (.int 0) k p'',kp]] env))) Q E s;refine wpAny_bind (wpAny_Name (pL K S X hk (by decide+kernel) boot_max ?_) (by decide+kernel));refine callWith_kw (args_cons (c.then X S h λy d j f l u m g st r i=>args_nil ?_) b) (by(refine b.symm▸?_);rfl) (by(refine b▸?_);rfl) rfl rfl;show wpAny _ A (evalAll [do let v ←eval (.Constant (.int 0) k p'') env;standAt p;pure v]) _ _ _;refine wpAny_evalAll_cons (wpAny_bind (wpAny_mkInt (wpAny_bind (wpAny_standAt (wpAny_pure (wpAny_evalAll_nil ?_))))));exact OT Y.hh g r (.int _ _) (i.step (Step.refl f d))
abbrev gW:au->Bool
|.Name ..=>true
|.Constant ..=>true
|_=>false
def sN(h:gW o=true):attributeBase o name env whole=whole:=by cases o<;>first|rfl|exact ff h
def O7(j:a9 G n A N env a e)(k:a9 G n A N env b e')(hb:gW e=true)(c:(ap.endLine==p.line)=true)(d:starEach [e'] env=[(false,eval e' env)]):a9 G n A N env (.join a b) (.Call (.Attribute e "join" ap) [e'] [] p):=λs J U L Q E X S h=>by
 refine Call_method1 (sN hb) d c (j.then X S h λy l m I K u o t st r g=>?_);have v:∃z,u=.str z:=by
  refine bB λP x=>bl (aR.bind g) λw R T f=>bl (aR.bind f) λsep Y i _=>aX (EE i) λB _=>?_;clear i;(clear f g r;subst B);exact x (#[_,rfl])
 obtain⟨z,rfl⟩:=v;(apply lq r;intro _);refine#["str",_,PySem.F.plainAttrs_str,PySem.F.slot_str_join,PySem.F.type_str_join,typeIs_str _ _ _,(λa q=>nomatch q),?_];have:=callWith_method1 (first:=[Value.str z ()]) (id:="str.join") (pos:=p) (env:=env) (e:=e') (rest:=[]) (M:=model G.prog G.w) (A:=A) (Q:=Q) (E:=E) (s:={s with heap:=l,toks:=m})
  (args_cons (k.then o t g λZ bt cJ eh bP u' dH C cK D f=>args_nil (OS (u:=.str z) C (.str _ _) D f)) d) d rfl
 replace this:=d▸this;exact this
def O8:a9 G n A N env (.az [] .nil) (.Dict [] [] p):=λs J U L Q E X S h=>by
 have a:PV G ((if(([]:List Str).length=([]:List V).length/\([]:List Str).Nodup/\([]:List Str).length<=15) then dB (.az ([].zip [])) else M.fail) U) J s Q:=h;exact aX (aR.ite a) λ_ b=>wpAny_Dict_empty (aR.newDict b S (λc o e=>gE _ _ e) (aU _) (Heap.DictOf.new s.heap) rfl .nil)
end
section
variable{G:Gd}{n:Nat}{A:Around}{N:List Str}{env:Env}
def LG(a:a9 G n A N env x e):rV G n A N env op (.cons x .nil) [e]:=λc s J U L Q E X S h=>by
 have d:PV G (M.bind (aj (G.ctx n) x L) (λv=>M.bind (eg v) λb=>M.pure (.bool b)) U) J s Q:=by cases op<;>exact h
 show wpAny _ A (eval e env) Q E s;exact a.then X S d λv j k l m u o f st r g=>by
  obtain⟨b,p,e,i⟩:=aR.bind g;have zz:=sV e;clear e;obtain⟨rfl,rfl⟩:=zz;exact i.cG f r
def LH(j:a9 G n A N env x e)(k:rV G n A N env op (.cons y es) (e'::l)):rV G n A N env op (.cons x (.cons y es)) (e::e'::l):=λa s J U L Q E X S h=>by
 show wpAny _ A (do
  let v ←eval e env
  standAt a
  let t ←holding [v] (truthy v)
  match op,t with
  |.And,false|.Or,true=>pure v
  |_,_=>boolOp a op (evalEach (e'::l) env)) Q E s
 cases op with
|And=>
  refine wpAny_bind (j.then X S h λv m o g p u i c st r d=>?_);obtain⟨b,q,e,f⟩:=aR.bind d;have zz:=sV e;clear e;obtain⟨rfl,rfl⟩:=zz;(apply qv r);refine wpAny_bind (wpAny_standAt (wpAny_bind (wpAny_holding (wpAny_truthy_bool ?_))));clear d r;cases b with
  |false=>exact wpAny_pure (aR.cG f c (.bool _))
  |true=>exact k a _ g _ L Q E i c f
|Or=>
  refine wpAny_bind (j.then X S h λv m o g p u i c st r d=>?_);obtain⟨b,q,e,f⟩:=aR.bind d;have zz:=sV e;clear e;obtain⟨rfl,rfl⟩:=zz;(apply qv r);refine wpAny_bind (wpAny_standAt (wpAny_bind (wpAny_holding (wpAny_truthy_bool ?_))));clear d r;cases b with
  |true=>exact wpAny_pure (aR.cG f c (.bool _))
  |false=>exact k a _ g _ L Q E i c f
def Rp(a:rV G n A N env .And es l):a9 G n A N env (.and es) (.BoolOp .And l p):=λs J U L Q E X S h=>a p s J U L Q E X S h
def Th(a:rV G n A N env .Or es l):a9 G n A N env (.or es) (.BoolOp .Or l p):=λs J U L Q E X S h=>a p s J U L Q E X S h
def Mg:rW G n A N env op .nil []:=λs J U L Q E X S h=>by
 cases op
 ·exact wpAny_pure (aR.cG h S rfl)
 ·exact wpAny_pure (aR.cG h S rfl)
def LI(g:ip G n A N env x e)(i:rW G n A N env op es l):rW G n A N env op (.cons x es) (e::l):=λs J U L Q E X S h=>by
 show wpAny _ A (do
  match op,←isTrue e env (eval e env) with
  |.And,false=>pure false
  |.Or,true=>pure true
  |_,_=>allTrue op l env) Q E s
 cases op with
|And=>
  refine wpAny_bind (g.then X S h λb j k d m f a st c=>?_);cases b with
  |false=>exact wpAny_pure (aR.cG c a rfl)
  |true=>exact i _ d _ L Q E f a c
|Or=>
  refine wpAny_bind (g.then X S h λb j k d m f a st c=>?_);cases b with
  |true=>exact wpAny_pure (aR.cG c a rfl)
  |false=>exact i _ d _ L Q E f a c
def O9(a:rW G n A N env .And es l):ip G n A N env (.and es) (.BoolOp .And l p):=λs J U L Q E X S h=>a s J U L Q E X S h
def Rq(a:rW G n A N env .Or es l):ip G n A N env (.or es) (.BoolOp .Or l p):=λs J U L Q E X S h=>a s J U L Q E X S h
def l0(h:cy (cq L v w) i=some u):(i=v/\u=w)∨(i≠v/\cy L i=some u):=by
 induction L generalizing v i with
|nil=>simp[cq,cy] at h
|cons x r c=>
  cases v with
  |zero=>
   cases i with
   |zero=>simp[cq,cy] at h;exact .inl #[rfl,h.symm]
   |succ i=>simp[cq,cy] at h;exact .inr #[by simp,by simpa[cy] using h]
  |succ v=>
   cases i with
   |zero=>simp[cq,cy] at h;exact .inr #[by simp,by simpa[cy] using h]
   |succ i=>
    simp[cq,cy] at h;rcases c h with ⟨a,b⟩|⟨a,b⟩
    ·exact .inl #[~~~cm (aM 0x6134184c04900904920634c rfl a) (aM 0x6134184c04904920630d rfl a),b]
    ·exact .inr #[by lia,by simpa[cy] using b]
def FJ(L:aP)(i:Nat):cy L i=(L[i]?).join:=by
 induction L generalizing i with
|nil=>simp[cy]
|cons x r a=>cases i<;>simp[cy,a]
def CG(h:cy (dj L br) i=some u):i∈br/\cy L i=some u:=by
 rw[FJ] at h ⊢;unfold dj at h;simp only[List.getElem?_map,List.getElem?_zipIdx] at h;cases hx:L[i]? with
|none=>(replace h:=hx▸h);simp at h
|some o=>
  replace h:=hx▸h;simp at h;exact#[h.1,by simpa using h.2]
def sO(d:∀y∈scope.names,y.2=.free->(env.cells.lookup y.1).isSome=true):
  ∃cl,closureFor scope env=pure cl/\∀y,(y,NameKind.free)∈scope.names->cl.lookup y=env.cells.lookup y:=by
 have i:∀(names:List (Str×NameKind))(cs:List (Str×Addr)),(∀y∈names,y.2=.free->(env.cells.lookup y.1).isSome=true)->(∀y c,cs.lookup y=some c->env.cells.lookup y=some c)->
   ∃cl,(forIn names cs λ(x:Str×NameKind)(cs:List (Str×Addr))=>(if(x.2==.free)=true then do let a ←cellOf env x.1;pure (ForInStep.yield ((x.1,a)::cs)) else pure (ForInStep.yield cs):Sem _))=pure cl/\
    (∀y,(y,NameKind.free)∈names∨(cs.lookup y).isSome=true->cl.lookup y=env.cells.lookup y):=by
  intro names
  induction names with
  |nil=>
   intro cs _ h;refine#[cs,by rw[List.forIn_nil],λy b=>?_];rcases b with q|q
   ·cases q
   ·obtain⟨c,d⟩:=Option.isSome_iff_exists.mp q;refine d▸(h y c d)▸?_;with_reducible rfl
  |cons x r m=>
   intro cs j h;obtain⟨nm,o⟩:=x;rw[List.forIn_cons]
   by_cases hk:o=.free
   ·subst hk;refine bB λt p=>?_;obtain⟨c,d⟩:=Option.isSome_iff_exists.mp (j (nm,.free) (.head _) rfl);have e:cellOf env nm=pure c:=by unfold cellOf;(refine d▸?_;with_reducible rfl)
    have k:∀y c',((nm,c)::cs).lookup y=some c'->env.cells.lookup y=some c':=λy c' q=>by
     rw[List.lookup_cons] at q;cases b:y==nm with
     |true=>(replace q:=b▸q);(apply fg q);(refine(beq_iff_eq.mp b)▸?_);exact d
     |false=>(replace q:=b▸q);exact h y c' q
    refine aQ (m ((nm,c)::cs) (λy b=>j y (.tail _ b)) k) λcl f g=>p (#[cl,?_,λy b=>?_])
    ·simp only[beq_self_eq_true,if_true,e];exact f
    ·refine g y ?_;rcases b with q|q
     ·rcases List.mem_cons.mp q with q|q
      ·right;cases q;rw[List.lookup_cons];simp
      ·exact .inl q
     ·right
      rw[List.lookup_cons];cases b:y==nm with
      |true=>rfl
      |false=>exact q
   ·have l:(o==NameKind.free)=false:=by simpa using hk
    refine aQ (m cs (λy b=>j y (.tail _ b)) h) λcl f g=>#[cl,?_,λy b=>?_]
    ·simp only[l,Bool.false_eq_true,if_false];exact f
    ·refine g y ?_;rcases b with q|q
     ·rcases List.mem_cons.mp q with q|q
      ·cases q;exact absurd rfl hk
      ·exact .inl q
     ·exact .inr q
 refine aQ (i scope.names [] d (λy c q=>~~~bR q)) λcl f g=>#[cl,?_,λy b=>g y (.inl b)];have s:closureFor scope env=(forIn scope.names ([]:List (Str×Addr)) λ(x:Str×NameKind)(cs:List (Str×Addr))=>(if(x.2==NameKind.free)=true then do let a ←cellOf env x.1;pure (ForInStep.yield ((x.1,a)::cs)) else pure (ForInStep.yield cs):Sem (ForInStep (List (Str×Addr))))) >>= λr=>pure r:=rfl;refine s▸f.symm▸?_
 rfl
end
def CH{env:Env}:∀{names:List (Str×NameKind)}{y:Str},(∀z∈names,z.2≠.cell)->
  (names.map λ(n,k)=>if(k==NameKind.free&&env.scope.kind==.function&&env.kindOf n==some .cell) then(n,NameKind.cell) else(n,k)).lookup y=some .cell->(y,NameKind.free)∈names/\env.kindOf y=some .cell
|[],y,_,h=>by simp at h
|(m,k)::r,y,c,h=>by
  have a:=@CH env r y (λz d=>c z (.tail _ d));simp only[List.map_cons] at h
  by_cases b:(k==NameKind.free&&env.scope.kind==.function&&env.kindOf m==some .cell)=true
  ·rw[if_pos b,List.lookup_cons] at h;cases hy:y==m with
   |true=>
    have e:=beq_iff_eq.mp hy;clear a hy h c;subst e;simp only[Bool.and_eq_true,beq_iff_eq] at b;exact#[by(refine(b.1.1)▸?_);exact .head _,b.2]
   |false=>
    replace h:=hy▸h;exact#[.tail _ (a h).1,(a h).2]
  ·rw[if_neg b,List.lookup_cons] at h;cases hy:y==m with
   |true=>
    (replace h:=hy▸h);(refine d7 h λf=>?_;subst f);exact absurd rfl (c (m,.cell) (.head _))
   |false=>
    replace h:=hy▸h;exact#[.tail _ (a h).1,(a h).2]
section
variable{G:Gd}{n:Nat}{A:Around}{N:List Str}{env:Env}{J:List Addr}{h:Heap}{L:aP}
structure gZ(N:List Str)(env:Env)(scope:Scope)(x:Str)(v:Nat)(br:List Nat):Prop where
 kind:scope.kind=.function
 Gv:∀y∈scope.names,y.2≠.cell
 locs:∀y∈scope.names,y.2=.local->scope.names.lookup y.1=some .local
 aa:scope.names.lookup x=some .local
 slot:N[v]?=some x
 free:∀y∈scope.names,y.2=.free->env.kindOf y.1=some .cell
 br:∀i∈br,∀y,N[i]?=some y->(relabel scope env).names.lookup y=some .cell
def bC.inner{scope:Scope}{x:Str}{v:Nat}{br:List Nat}{cl:List (Str×Addr)}(X:bC G N env J h L)(Z:gZ N env scope x v br)(q:∀y,(y,NameKind.free)∈scope.names->cl.lookup y=env.cells.lookup y)(r:h.Ns C m)(B:m x=some w)(D:Rel G J h w it)(F:C∉J)(I:G.hb.get? C=none):bC G N (compEnvC scope cl C env) J h (cq (dj L br) v it):=by
 have a:∀y,(compEnvC scope cl C env).kindOf y=some .cell->env.kindOf y=some .cell/\cl.lookup y=env.cells.lookup y:=λy f=>by
  exact aX (CH Z.Gv f) λd b=>#[b,q y d]
 have t:(compEnvC scope cl C env).kindOf x=some .local:=lookup_relabel_local Z.aa;have l:∀i u y,cy (cq (dj L br) v it) i=some u->N[i]?=some y->(i=v/\u=it/\y=x)∨(i∈br/\cy L i=some u/\(compEnvC scope cl C env).kindOf y=some .cell):=λi u y d b=>by
  rcases l0 d with ⟨rfl,rfl⟩|⟨j,e⟩
  ·(replace b:=(Z.slot)▸b);(apply fg b);exact .inl #[rfl,rfl,rfl]
  ·exact aX (CG e) λk s=>.inr #[k,s,Z.br i k y b]
 refine#[Z.kind,X.glob,X.blt,#[m,r,λi u y d b j=>?_],λy f=>?_,λi u d=>?_,λy z c d b j e=>?_,X.nodup,F,λy c d b=>?_,I,λy c d b=>?_]
 ·rcases l i u y d b with ⟨_,rfl,rfl⟩|⟨_,_,e⟩
  ·exact#[w,B,D]
  ·(replace e:=j▸e);cases e
 ·refine aX (a y f) λd b=>dk (X.cl y d) λc K Q g R=>#[c,K,b.trans Q,g,λi u j e=>?_];rcases l i u y j e with ⟨_,_,rfl⟩|⟨_,k,_⟩
  ·(replace f:=t▸f);cases f
  ·exact R i u k e
 ·rcases l0 d with ⟨rfl,rfl⟩|⟨_,e⟩
  ·exact#[x,Z.slot,.inl t]
  ·exact bB λXx T=>aX (CG e) λk s=>aQ (X.has i u s) λy f _=>T (#[y,f,.inr (Z.br i k y f)])
 ·exact aX (a y d) λo p=>aX (a z b) λU Y=>X.apart y z c o U (p▸j) (Y▸e)
 ·obtain⟨o,p⟩:=a y d;exact X.kD y c o (p▸b)
 ·obtain⟨o,p⟩:=a y d;exact X.jl y c o (p▸b)
end
end Qh
namespace Qh
open PySem PySem.W PyProof.Rows
abbrev hid(h:Heap)(l:List Addr):Heap:=l.foldl Heap.hide h
def mx(l:List Addr){h:Heap}{b:Addr}{o:Obj}(e:(hid h l).get? b=some o):h.get? b=some o:=by
 induction l generalizing h with
|nil=>exact e
|cons a r c=>exact Heap.of_hide (c e)
def tM(l:List Addr){h:Heap}{b:Addr}{o:Obj}(e:h.get? b=some o)(n:b∉l):(hid h l).get? b=some o:=by
 induction l generalizing h with
|nil=>exact e
|cons a r c=>exact c ((Heap.hide_ne h (List.ne_of_not_mem_cons n)).trans e) (List.not_mem_of_not_mem_cons n)
def rn(l:List Addr){h:Heap}{b:Addr}(m:b∈l):(hid h l).get? b=none:=by
 induction l generalizing h with
|nil=>exact nomatch m
|cons a r c=>
  rcases List.mem_cons.mp m with q|q
  ·clear c m;subst q;cases e:(hid h (b::r)).get? b with
   |none=>rfl
   |some o=>exact bR ((Heap.hide_self h b).symm.trans (mx r e))
  ·exact c q
def LJ{base h:Heap}{c:List Addr}{l:List Env}(H:h.FunFrames base l)(m:∀env∈l,∀a,env.frame=some a->a∈c):h.FunFrames (hid h c) l:=by
 induction l with
|nil=>exact trivial
|cons env r d=>
  exact g8 H λf b g=>#[f,b.elim λL b=>b.elim λo b=>#[L,o,b.1,rn _ (m env (.head _) L b.1),b.2.2],d g λe i=>m e (.tail _ i)]
abbrev hp0:Heap:={}
abbrev places(l:List Env):List Addr:=l.filterMap (·.frame)
structure iZ(l:List Env)(h base:Heap):Prop where
 sub:∀b o,base.get? b=some o->h.get? b=some o
 sup:∀b o,h.get? b=some o->b∉places l->base.get? b=some o
structure gO(base:Heap)(l:List Env)(e:Addr)(C:Addr)(fl:Value)(h:Heap):Prop where
 stays:base.StaysIn h
 new:base.get? e=none
 frames:h.FunFrames base l
 Rr:∃a0,h.TracedAtW base e (.ref C) a0 fl
inductive o0(C:Addr)(l:List Env)(h h':Heap)(e:Addr):Prop
|made {args:List Value}:Heap.MadeExcOf h h' e (.ref C) args->o0 C l h h' e
|on {base:Heap}{fl:Value}:iZ l h base->gO base l e C fl h'->h.UpToSlots h'->o0 C l h h' e
structure Fs(A:Around)(fe:Env)(outer:List Env)(Lf:Addr)(env:Env)(J:List Addr)(h:Heap):Prop where
 fr:A.frames=some (fe::outer)
 fl:fe.frame=some Lf
 qK:env.frame=some Lf
 alive:h.FunFrames hp0 (fe::outer)
 own:∀b∈places (fe::outer),b∉J
abbrev Sep(outer:List Env)(env:Env):Prop:=∀b∈places outer,b≠env.locals/\∀x,env.kindOf x=some .cell->env.cells.lookup x≠some b
section
variable{G:Gd}{A:Around}{fe env:Env}{outer:List Env}{Lf:Addr}{J aA:List Addr}{h h':Heap}{N:List Str}{L:aP}{U ah:H}
def vi{l:List Env}(c:h.FunFrames hp0 l)(k:∀b∈places l,∀o,h.get? b=some o->(∀vs,o.data≠.fields vs)->∃o',h'.get? b=some o'/\∀vs,o'.data≠.fields vs):h'.FunFrames hp0 l:=by
 induction l with
|nil=>trivial
|cons e r d=>
  refine bB λv f=>?_;obtain⟨g,⟨b,o,a,i,j,m⟩,p⟩:=c;refine aQ (k b (List.mem_filterMap.mpr #[e,.head _,a]) o j m) λo' q s=>f ?_
  exact#[g,#[b,o',a,i,q,s],d p λb hb=>k b (by
   refine aQ (List.mem_filterMap.mp hb) λx t u=>?_
   exact List.mem_filterMap.mpr #[x,.tail _ t,u])]
def n7{l:List Env}(a:h.FunFrames hp0 l){b:Addr}(hb:b∈places l):∃o,h.get? b=some o/\∀vs,o.data≠.fields vs:=(Heap.FunFrames.mem a hb).2
def Fs.step(F:Fs A fe outer Lf env J h)(st:Step J h aA h'):Fs A fe outer Lf env aA h':=by
 refine#[F.fr,F.fl,F.qK,vi F.alive λb hb o e a=>#[o,st.keep b o e (F.own b hb),a],λb hb q=>?_];rcases st.fresh b q with q|q
 ·exact F.own b hb q
 ·refine aQ (n7 F.alive hb) λo e _=>?_;(replace q:=e▸q);exact ez q
def wJ{a:Addr}{m:Str->Option Value}(b:h.Ns a m):∃o,h.get? a=some o/\∀vs,o.data≠.fields vs:=by exact gi (b) λo e f c d _=>#[o,c,λvs q=>by(replace q:=d▸q);cases q]
def Fs.jN(sep:Sep outer env)(F:Fs A env outer env.locals env J h)(st:d5 env J h aA h')(X:bC G N env aA h' L):Fs A env outer env.locals env aA h':=by
 refine#[F.fr,F.fl,F.qK,?_,λb hb q=>?_]
 ·refine vi F.alive λb hb o e f=>?_
  by_cases q:b=env.locals
  ·refine aQ (X.ns) λm g _=>?_
   (refine q▸?_);exact wJ g
  ·have c:b∈places outer:=by
    refine aQ (List.mem_filterMap.mp hb) λx d a=>?_;rcases List.mem_cons.mp d with rfl|d
    ·(replace a:=(F.fl)▸a);exact absurd (Option.some.inj a).symm q
    ·exact List.mem_filterMap.mpr #[x,d,a]
   exact#[o,st.keep b o e (F.own b hb) q (sep b c).2,f]
 ·rcases st.fresh b q with q|q
  ·exact F.own b hb q
  ·refine aQ (n7 F.alive hb) λo e _=>?_;(replace q:=e▸q);exact ez q
def Pa{l:List Env}(c:h.FunFrames hp0 l):iZ l h (hid h (places l))/\h.FunFrames (hid h (places l)) l:=
 #[#[λb o e=>mx _ e,λb o e d=>tM _ e d],LJ c λenv f a g=>List.mem_filterMap.mpr #[env,f,g]]
def C4{l:List Env}{base:Heap}(B:iZ l h base){e:Addr}(a:h.get? e=none):base.get? e=none:=by
 cases q:base.get? e with
|none=>rfl
|some o=>(replace a:=(B.sub e o q)▸a);exact ez a
end
section
variable{M:Model}{A:Around}{E:bN}{s:Shared}{C Lf e:Addr}{fe env:Env}{outer:List Env}{J:List Addr}{h:Heap}
def flight{base:Heap}{l:List Env}{fl:Value}{fr:Option Addr}{Q:Unit->Shared->Prop}(y:gO base l e C fl s.heap)(k:∀m,gO base l e C (fr.elim Value.none λf=>rawInt f) m->s.heap.UpToSlots m->Q Unit.unit {s with heap:=m}):wpAny M A (setFlight (.ref e) fr) Q E s:=by
 obtain⟨f1,f2,f3,z,B,vs,T,F,p,r,c,d,t,u,v,g,i,D⟩:=y;have w:3<p.size:=(Array.getElem?_eq_some_iff.mp D).1;have other:∀b,b≠T->(s.heap.update T (Obj.mapFields (·.setIfInBounds 3 (fr.elim Value.none λf=>rawInt f)))).get? b=s.heap.get? b:=λb hb=>Heap.get?_update_other _ _ (Ne.symm hb);have x:∀b o,s.heap.get? b=some o->(∀vs,o.data≠.fields vs)->b≠T:=λb o hb a q=>by
  (replace hb:=g▸(q▸hb));injection hb with hb;(clear g;subst hb);exact a p i
 unfold setFlight;refine wpAny_bind (wpAny_field r d t ?_);rw[if_pos (show(Value.ref T != Value.none)=true from by rfl)];refine wpAny_setField g i w (k _ #[λb o j=>(other b λq=>by(replace j:=u▸(q▸j));exact bR j).trans (f1 b o j),f2,f3.of_keeps λb o hb a=>#[o,(other b (x b o hb a)).trans hb,rfl],z,?_] λb o hb a=>#[o.slots,(other b (x b o hb a)).trans hb]);exact#[B,vs,T,_,_,(other e (Ne.symm v)).trans r,c,d,t,u,v,Heap.get?_update_self _ g (Obj.isFreed_of_fields (Obj.data_mapFields i _)),Obj.data_mapFields i _,by simp[w]]
def LK{v:Value}(a:env.frame=fe.frame):noteFrame v env=noteFrame v fe:=by unfold noteFrame PySem.frameOf;refine a▸?_;with_reducible rfl
def Mh{base:Heap}{fl:Value}{Q:Unit->Shared->Prop}(F:Fs A fe outer Lf env J h)(p:gO base (fe::outer) e C fl s.heap)(k:∀c,gO base (fe::outer) e C (rawInt Lf) c->s.heap.UpToSlots c->Q Unit.unit {s with heap:=c}):wpAny M A (noteFrame (.ref e) fe) Q E s:=by
 have i:=p;obtain⟨f1,f2,f3,w,R,vs,T,U,x,r,⟨y,z⟩,d,t,B,D,f,j,u⟩:=i;unfold noteFrame;simp only[F.fl];refine wpAny_bind (wpAny_field r d t ?_);rw[if_pos (show(Value.ref T != Value.none)=true from by rfl)];refine wpAny_bind (wpAny_field f j u ?_)
 by_cases l:(fl==rawInt Lf)=true
 ·refine(if_pos l)▸?_;obtain rfl:fl=rawInt Lf:=eq_of_beq l;exact wpAny_pure (k s.heap p (Heap.UpToSlots.refl _))
 ·refine(if_neg l)▸wpAny_bind (wpAny_setField f j ((Array.getElem?_eq_some_iff.mp u).1) ?_);have other:∀b,b≠T->(s.heap.update T (Obj.mapFields (·.setIfInBounds 3 Value.none))).get? b=s.heap.get? b:=λb hb=>Heap.get?_update_other _ _ (Ne.symm hb);have v:∀b o,s.heap.get? b=some o->(∀vs,o.data≠.fields vs)->b≠T:=λb o hb a q=>by
   (replace hb:=f▸(q▸hb));injection hb with hb;(clear f;subst hb);exact a x j
  refine wpAny_entryW F.fr (f3.of_keeps λb o hb a=>#[o,(other b (v b o hb a)).trans hb,rfl]) F.fl ((other e (Ne.symm D)).trans r)
   (λb o g=>(other b λq=>by(replace g:=B▸(q▸g));exact bR g).trans (f1 b o g)) f2 d (Array.getElem?_eq_some_iff.mp t).1 z λc G=>?_
  refine jL (G) λI K m L=>?_;replace m:=y▸m;exact k c #[I,f2,K,w,m] λb o hb a=>L b o ((other b (v b o hb a)).trans hb) a
def vN{Q:Unit->Shared->Prop}(F:Fs A fe outer Lf env J h)(x:o0 C (fe::outer) h s.heap e)(k:∀a base,iZ (fe::outer) h base->gO base (fe::outer) e C (rawInt Lf) a->h.UpToSlots a->Q Unit.unit {s with heap:=a}):wpAny M A (noteFrame (.ref e) env) Q E s:=by
 refine(LK (fe:=fe) (F.qK.trans F.fl.symm))▸?_;cases x with
|made c=>
  obtain⟨B,ff⟩:=Pa F.alive;refine ct (c.there) λt d n p=>?_;unfold noteFrame;simp only[F.fl];refine wpAny_bind (wpAny_field d rfl (i:=1) (x:=.none) rfl ?_);rw[if_neg ∅];exact wpAny_entryW F.fr (ff.of_keeps λb o hb _=>#[o,c.keeps b o hb,rfl]) F.fl d (λb o q=>c.keeps b o (B.sub b o q)) (C4 B c.new) rfl ∅ rfl λa f=>jL (f) λk1 g k3 j=>k a _ B #[k1,C4 B c.new,g,_,k3] ((Heap.UpToSlots.of_keeps c.keeps).trans j)
|on B hd u=>exact Mh F hd λa l m=>k a _ B l (u.trans m)
def Mi{Q:Unit->Shared->Prop}(F:Fs A fe outer Lf fe J h)(x:o0 C (fe::outer) h s.heap e)(k:∀a base,iZ (fe::outer) h base->gO base (fe::outer) e C .none a->h.UpToSlots a->Q Unit.unit {s with heap:=a}):wpAny M A (leaving fe (.ref e)) Q E s:=by unfold leaving;exact wpAny_bind (vN F x λa base B d u=>flight d λb c f=>k b base B c (u.trans f))
def Nv{base:Heap}{fl:Value}(B:iZ (fe::outer) h base)(d:gO base (fe::outer) e C fl s.heap)(u:h.UpToSlots s.heap)(k:∀a,o0 C (fe::outer) h a e->E (.ref e) {s with heap:=a}):cameBackBy M A env E (.ref e) s:=by have b:=d;obtain⟨_,_,_,m,n,o,T,p,q,g,f,c,i,_⟩:=b;unfold cameBackBy;refine wpAny_bind (wpAny_field g c i ?_);rw[if_neg (show ¬ (Value.ref T==Value.none)=true from by simp)];exact flight d λa j l=>k a (.on B j (u.trans l))
def Nw{α:Type}{a:String}{Q:α->Shared->Prop}{base:Heap}{fl:Value}(B:iZ (fe::outer) h base)(f:gO base (fe::outer) e C fl s.heap)(u:h.UpToSlots s.heap)(k:∀b,o0 C (fe::outer) h b e->E (.ref e) {s with heap:=b}):wpAny M A (PySem.passOn a (.ref e) env:Sem α) Q E s:=by have c:=f;obtain⟨_,_,_,n,o,p,T,q,r,i,g,d,j,_⟩:=c;unfold PySem.passOn;refine wpAny_bind (wpAny_field i d j ?_);rw[if_neg (show ¬ (Value.ref T==Value.none)=true from by simp)];exact wpAny_bind (flight f λb l m=>wpAny_throw (k b (.on B l (u.trans m))))
end
abbrev Gd.tg(G:Gd):Nat:=G.P.fC 0
abbrev Gd.xf(G:Gd)(f:Nat):Prop:=G.P.fC (f+1)=1∨G.P.fC (f+1)=4
abbrev PX(G:Gd)(fe:Env)(outer:List Env)(Lf:Addr)(J:List Addr)(s:Shared)(d:H)(E:bN):Prop:=
 ∀e a b tk c,Step J s.heap c a->aI G c d a->o0 (G.cA 1) (fe::outer) a b e->E (.ref e) {s with heap:=b,toks:=tk}
def PX.step{G:Gd}{fe:Env}{outer:List Env}{Lf:Addr}{J b:List Addr}{s:Shared}{c:H}{E:bN}{d:Heap}{tk:Nat}(p:PX G fe outer Lf J s c E)(st:Step J s.heap b d):PX G fe outer Lf b {s with heap:=d,toks:=tk} c E:=
 λe f g h i a S x=>p e f g h i (st.trans a) S x
section
variable(G:Gd)(n:Nat)(A:Around)(N:List Str)(env:Env)
abbrev eP(x:E)(e:au):Prop:=∀(s:Shared)(J:List Addr)(U:H)(L:aP)(a:H)(fe:Env)(outer:List Env)(Lf:Addr)(Q:bN)(E:bN),bC G N env J s.heap L->aI G J U s.heap->Fs A fe outer Lf env J s.heap->
 aj (G.ctx n) x L U=.aF G.tg a->PX G fe outer Lf J s a E->wpAny G.mo A (eval e env) Q E s
abbrev xH(x:E)(e:au):Prop:=∀(s:Shared)(J:List Addr)(U:H)(L:aP)(a:H)(fe:Env)(outer:List Env)(Lf:Addr)(Q:Bool->Shared->Prop)(E:bN),bC G N env J s.heap L->aI G J U s.heap->Fs A fe outer Lf env J s.heap->
 bQ (G.ctx n) x L U=.aF G.tg a->PX G fe outer Lf J s a E->wpAny G.mo A (isTrue e env (eval e env)) Q E s
abbrev mE(es:EL)(l:List au):Prop:=∀(pos:Pos)(s:Shared)(J:List Addr)(U:H)(L:aP)(a:H)(fe:Env)(outer:List Env)(Lf:Addr)(Q:List Value->Shared->Prop)(E:bN),bC G N env J s.heap L->aI G J U s.heap->Fs A fe outer Lf env J s.heap->
 dC (G.ctx n) es L U=.aF G.tg a->PX G fe outer Lf J s a E->wpAny G.mo A (spliced (backTo pos (starEach l env))) Q E s
abbrev qi:Prop:=∀(A:Around),Ao A n->∀(fe:Env)(outer:List Env)(Lf:Addr)(env:Env)(f:Nat),G.xf f->∀(vs:List V)(vals:List Value)(s:Shared)(J:List Addr)(U:H)(a:H)(Q:bN)(E:bN),aI G J U s.heap->bL G J s.heap vals vs->
 Fs A fe outer Lf env J s.heap->av G.P G.script n f vs U=.aF G.tg a->PX G fe outer Lf J s a E->wpAny G.mo A (call (.ref (G.fA f)) vals) Q E s
end
def j6{α g:Type}{m:M α}{f:α->M g}{U d:H}{c:Nat}(h:M.bind m f U=.aF c d):m U=.aF c d∨∃a b,m U=.ok a b/\f a b=.aF c d:=by
 unfold M.bind at h;cases e:m U with
|ok a b=>(replace h:=e▸h);exact .inr #[a,b,rfl,h]
|aF c1 b=>(replace h:=e▸h);(apply U7 h);exact .inl rfl
|bad=>(replace h:=e▸h);exact lM h
abbrev bH{α:Type}(t:Nat)(m:M α):Prop:=∀U a,m U≠.aF t a
section
variable{t:Nat}
def bH.bind{α b:Type}{m:M α}{f:α->M b}(h:bH t m)(c:∀a,bH t (f a)):bH t (M.bind m f):=λU d e=>by
 rcases j6 e with q|⟨a,g,_,q⟩
 ·exact h _ _ q
 ·exact c a _ _ q
def bH.pure{α:Type}{a:α}:bH t (M.pure a):=λ_ _ e=>~~~sv e
def bH.fail{α:Type}:bH t (M.fail:M α):=λ_ _ e=>~~~lM e
def bH.ite{α:Type}{c:Prop}[Decidable c]{m m':M α}(h:bH t m)(a:bH t m'):bH t (if c then m else m'):=by split<;>assumption
def bH.dB{o:O}:bH t (dB o):=λ_ _ e=>~~~sv e
def bH.cH{i:Nat}:bH t (cH i):=λU _ e=>by unfold Qh.cH at e;split at e<;>(first|exact sv e|exact lM e|cases e)
def bH.dD{α:Type}{o:Option α}:bH t (Qh.dD o):=by cases o<;>first|exact .pure|exact .fail
def bH.bO{v:V}:bH t (bO v):=by cases v<;>first|exact .fail|exact .bind .cH λo=>(by cases o<;>first|exact .pure|exact .fail)
def bH.dQ{v:V}:bH t (dQ v):=by cases v<;>first|exact .pure|exact .fail
end
section
variable{G:Gd}{n:Nat}{A:Around}{N:List Str}{env:Env}
def Rt{x:E}{e:au}(h:∀L,bH G.tg (aj (G.ctx n) x L)):eP G n A N env x e:=λs J U L c d a f Q E X S F b p=>absurd b (h L _ _)
def Pb{x:EL}{l:List au}(h:∀L,bH G.tg (dC (G.ctx n) x L)):mE G n A N env x l:=λb s J U L d e a f Q E X S F c p=>absurd c (h L _ _)
def Ru{x:E}{e:au}(h:∀L,bH G.tg (bQ (G.ctx n) x L)):xH G n A N env x e:=λs J U L c d a f Q E X S F b p=>absurd b (h L _ _)
def oJ{x:E}{e:au}(h:a9 G n A N env x e)(i:eP G n A N env x e){s:Shared}{J:List Addr}{U:H}{L:aP}{c:H}{fe:Env}{outer:List Env}{Lf:Addr}{j:Type}{f:V->M j}{d:bN}{E:bN}(X:bC G N env J s.heap L)(S:aI G J U s.heap)(F:Fs A fe outer Lf env J s.heap)(l:M.bind (aj (G.ctx n) x L) f U=.aF G.tg c)(p:PX G fe outer Lf J s c E)(k:∀v a tk b g u,bC G N env b a L->aI G b g a->Step J s.heap b a->Fs A fe outer Lf env b a->Rel G b a v u->f u g=.aF G.tg c->PX G fe outer Lf b {s with heap:=a,toks:=tk} c E->d v {s with heap:=a,toks:=tk}):
  wpAny G.mo A (eval e env) d E s:=by
 rcases j6 l with q|⟨u,g,m,o⟩
 ·exact i s J U L c fe outer Lf d E X S F q p
 ·refine h s J U L d E X S (m▸?_);exact λv a tk b st t r=>k v a tk b g u (X.step S st) t st (F.step st) r o (p.step st)
def tS{x:EL}{l:List au}(g:gB G n A N env x l)(h:mE G n A N env x l){pos:Pos}{s:Shared}{J:List Addr}{U:H}{L:aP}{c:H}{fe:Env}{outer:List Env}{Lf:Addr}{i:Type}{f:List V->M i}{d:List Value->Shared->Prop}{E:bN}(X:bC G N env J s.heap L)(S:aI G J U s.heap)(F:Fs A fe outer Lf env J s.heap)(j:M.bind (dC (G.ctx n) x L) f U=.aF G.tg c)(p:PX G fe outer Lf J s c E)(k:∀v a tk b e u,bC G N env b a L->aI G b e a->Step J s.heap b a->Fs A fe outer Lf env b a->bL G b a v u->f u e=.aF G.tg c->PX G fe outer Lf b {s with heap:=a,toks:=tk} c E->d v {s with heap:=a,toks:=tk}):
  wpAny G.mo A (spliced (backTo pos (starEach l env))) d E s:=by
 rcases j6 j with q|⟨u,e,m,o⟩
 ·exact h pos s J U L c fe outer Lf d E X S F q p
 ·refine g pos s J U L d E X S (m▸?_);exact λv a tk b st t r=>k v a tk b e u (X.step S st) t st (F.step st) r o (p.step st)
def no{α:Type}{m:M α}{U a:H}{t:Nat}{P:Prop}(h:bH t m)(e:m U=.aF t a):P:=absurd e (h _ _)
def Pc{es:EL}{l:List au}{k:Nat}{p:Pos}(b:gB G n A N env es l)(c:mE G n A N env es l):eP G n A N env (.ay es) (.Tuple l k p):=λs J U L f g a h Q E X S F d px=>
 Tuple_ (tS b c X S F d px λv i j m o u q t st w r e x=>no (.ite .pure .fail) e)
def Pd{es:EL}{l:List au}{p:Pos}(b:gB G n A N env es l)(c:mE G n A N env es l):eP G n A N env (.af es) (.List l p):=λs J U L f g a h Q E X S F d px=>
 List_ (tS b c X S F d px λv i j k m u o q st t r e w=>no (.ite .dB .fail) e)
def Nx{x:E}{e:au}{es:EL}{l:List au}(b:a9 G n A N env x e)(c:eP G n A N env x e)(d:gB G n A N env es l)(f:mE G n A N env es l)(g:starEach (e::l) env=(false,eval e env)::starEach l env):mE G n A N env (.cons x es) (e::l):=λh s J U L t w a y Q E X S F i px=>
 args_cons (oJ b c X S F i px λv z B C D u j k st m r o p=>tS d f j k m o p λI K P R T Y Z bY cK lu rs q xI=>no .pure q) g
def bH.binop{t:Nat}{d:Operator}{a b:V}:bH t (binop d a b):=by
 have c:∀{f:Int->Int->M V},(∀x y,bH t (f x y))->bH t (arith f a b):=λe=>by
  cases a<;>first|exact .fail|(cases b<;>first|exact .fail|exact e _ _)
 cases d with
|Add=>
  show bH t (A0 a b);(clear c;cases a)<;>first|exact .fail|(cases b<;>first|exact .fail|exact .pure|exact .ite .pure .fail|exact .bind .bO λ_=>.bind .bO λ_=>.ite .dB .fail)
|Sub=>exact c λ_ _=>.pure
|Mult=>exact c λ_ _=>.ite .pure .fail
|Mod=>exact c λ_ _=>.ite .fail .pure
|FloorDiv=>exact c λ_ _=>.ite .fail .pure
|Pow=>exact c λ_ _=>.ite .pure .fail
|_=>exact .fail
def Pe{d:Operator}{a b:E}{l r:au}{p:Pos}(e:a9 G n A N env a l)(f:eP G n A N env a l)(g:a9 G n A N env b r)(h:eP G n A N env b r):eP G n A N env (.ak d a b) (.BinOp l d r p):=λs J U L w x c y Q E X S F i px=>
 wpAny_BinOp (oJ e f X S F i px λv z B C D u j k st m r o q=>oJ g h j k m o q λv' I K P R T Y Z cK lu r' t xI=>no .binop t)
end
section
variable{G:Gd}{n:Nat}{A:Around}{N:List Str}{env:Env}
abbrev TurnOk(G:Gd)(A:Around)(N:List Str)(a:Env)(L:aP)(ifs:List au)(elt:au)(m:M (Option V)):Prop:=
 ∀(s:Shared)(J:List Addr)(U e:H)(y:Option V)(f:bN)(g:Shared->Prop)(E:bN),bC G N a J s.heap L->aI G J U s.heap->m U=.ok y e->
  (∀b tk d,Step J s.heap d b->aI G d e b->match y with|some u=>∀w,Rel G d b w u->f w {s with heap:=b,toks:=tk}|none=>g {s with heap:=b,toks:=tk})->
  wpAny G.mo A (forIn ifs true λc r=>if r=true then do let ok ←isTrue c a (eval c a);pure (ForInStep.yield ok) else pure (ForInStep.yield r))
   (λok h=>if ok=true then wpAny G.mo A (eval elt a) f E h else g h) E s
def sP(b:a9 G n A N env elt e):TurnOk G A N env L [] e (M.bind (aj (G.ctx n) elt L) λy=>M.pure (some y)):=λs J U p y c q E X S a h=>by
 refine wpAny_tests_nil ?_;simp only[if_true];refine bB λt d=>bl (eJ a) λu v f g=>eR g λi j=>?_;(clear a;subst i);subst j;exact d (b s J U L c E X S (f▸λw k l m st o r=>h k l m st o w r))
def DJ(o:a9 G n A N env elt e)(p:ip G n A N env t te):
  TurnOk G A N env L [te] e (M.bind (bQ (G.ctx n) t L) λb=>if b then M.bind (aj (G.ctx n) elt L) λy=>M.pure (some y) else M.pure none):=λs J U P y q Q E X S i h=>by
 refine bl (eJ i) λb v j a=>wpAny_tests_one (p s J U L _ E X S ?_);refine j▸?_;rintro x z B k st l rfl;clear j;cases x with
|false=>
  refine bB λR C=>eR a λc d=>?_;(clear i;subst c);subst d;refine C ?_;simp only[Bool.false_eq_true,if_false];exact h z B k st l
|true=>
  simp only[if_true] at a ⊢;refine bl (eJ a) λu T D m=>eR m λc d=>?_;(clear m a;subst c);subst d;exact o _ k v L q E (X.step S st) l (D▸λw f F I g K r=>h f F I (st.trans g) K w r)
abbrev AA(G:Gd)(A:Around)(N:List Str)(a:Env)(L:aP)(ifs:List au)(elt:au)(m:M (Option V)):Prop:=
 ∀(s:Shared)(J:List Addr)(U b:H)(fe:Env)(outer:List Env)(Lf:Addr)(e:bN)(f:Shared->Prop)(E:bN),bC G N a J s.heap L->aI G J U s.heap->Fs A fe outer Lf a J s.heap->m U=.aF G.tg b->PX G fe outer Lf J s b E->
  wpAny G.mo A (forIn ifs true λc r=>if r=true then do let ok ←isTrue c a (eval c a);pure (ForInStep.yield ok) else pure (ForInStep.yield r))
   (λok d=>if ok=true then wpAny G.mo A (eval elt a) e E d else f d) E s
def Li(b:eP G n A N env elt e):AA G A N env L [] e (M.bind (aj (G.ctx n) elt L) λy=>M.pure (some y)):=λs J U c d a f g i E X S F h p=>by
 refine wpAny_tests_nil ?_;simp only[if_true];rcases j6 h with q|⟨_,_,_,q⟩
 ·exact b s J U L c d a f g E X S F q p
 ·exact no .pure q
def Hk(hk:env.scope.kind=.function):(env.scope.kind==.class||(env.scope.kind==.module&&env.locals != env.globals))=false:=by(refine hk▸?_);rfl
def Lj(q:h.PlainList D xs):∀a d,IsTup h a d->a≠D:=by
 rintro a d ⟨o,e,c,_⟩ rfl;refine cb (q) λk b=>?_;(replace b:=e▸b);(refine d7 b λf=>?_;(clear e;subst f))
 injection c with c
 exact absurd c ∅
def pF(q:h.Ns C m):∀a g,IsTup h a g->a≠C:=by rintro a g ⟨o,e,c,n,d⟩ rfl;refine gi (q) λj k l b f _=>?_;(replace b:=e▸b);(refine d7 b λi=>?_;(clear b;subst i));(replace f:=d▸f);cases f
def Jp(h:k+(m+1)<=B):k+1+m<=B:=bD 0x38134184c04904920538106134c rfl h
def Vb(a:n<=k)(b:k+(m+1)<=B)(c:B<=aJ+1):n<=sizeLine:=by
 have:aJ=1000000:=rfl;have:sizeLine=2^24:=rfl
 lia
def Vc(h:xs.length<=k):(xs++[w]).length<=k+1:=by(refine(List.length_append)▸?_);exact Nat.succ_le_succ h
def C5(e:ea sr k U=.ok r aw):aw=U:=by
 cases sr with
|fix b=>(apply fO e);rfl
|live i=>
  refine bl (eJ e) λb f a c=>ct (eT a) λ_ _ d _=>?_;clear a;(clear e;subst d);(apply fO c);rfl
abbrev xp(t:Nat)(f:V->M (Option V))(d:H->List V->Prop)(a:H->List V->Prop)(e:H->Prop)(U:H)(us:List V):Option V->Prop
|none=>a U us
|some v=>(∃y b,f v U=.ok y b/\d b (us++y.toList))∨∃c,f v U=.aF t c/\e c
abbrev x7(sr:Src)(f:V->M (Option V))(a:List V)(b:H)(m k:Nat)(U:H)(us:List V):Prop:=∃rest,dG sr f m k U=.ok rest b/\us++rest=a
def x7.next(c:x7 sr f all dA m k U d):∃m' r,m=m'+1/\ea sr k U=.ok r U/\xp t f (x7 sr f all dA m' (k+1)) (λU d=>d=all/\U=dA) (λ_=>False) U d r:=by
 refine aQ (c) λj e l=>?_;clear c;cases m with
|zero=>exact dc e
|succ m=>
  refine bl (eJ e) λr x g b=>?_;obtain rfl:=C5 g;refine#[m,r,rfl,g,?_];clear g;cases r with
  |none=>(refine eR b λh i=>?_;(clear b e;subst h);subst i);exact#[by rw[←l,List.append_nil],rfl]
  |some v=>
   refine bB λz q=>bl (eJ b) λy s u o=>bl (eJ o) λa B w p=>q ?_;refine eR p λh i=>?_;(clear p o b;subst h);subst i;exact .inl #[y,s,u,a,w,by rw[←l,List.append_assoc]]
abbrev xJ(t:Nat)(sr:Src)(f:V->M (Option V))(a:H)(m k:Nat)(U:H)(_:List V):Prop:=dG sr f m k U=.aF t a
def xJ.next(c:xJ t sr f dA m k U us):∃m' r,m=m'+1/\ea sr k U=.ok r U/\xp t f (xJ t sr f dA m' (k+1)) (λ_ _=>False) (λU=>U=dA) U us r:=by
 cases m with
|zero=>exact lM c
|succ m=>
  rcases j6 c with q|⟨r,h,a,b⟩
  ·exact no (by clear q c;cases sr with
    |fix vs=>exact .pure
    |live i=>exact .bind .bO λ_=>.pure) q
  ·obtain rfl:=C5 a;refine#[m,r,rfl,a,?_];clear a;cases r with
   |none=>exact no .pure b
   |some v=>
    rcases j6 b with q|⟨y,d,e,g⟩
    ·exact .inr #[dA,q,rfl]
    ·rcases j6 g with q|⟨_,_,_,q⟩
     ·exact .inl #[y,d,e,q]
     ·exact no .pure q
abbrev uy(G:Gd)(I D C:Addr)(sr:Src)(T:Nat->Nat->H->List V->Prop)(dq:Shared)(dX:List Addr)(B:Nat)(m:Nat)(s:Shared):Prop:=
 ∃a tk b c k xs us mC,s={dq with heap:=a,toks:=tk}/\Step dX dq.heap b a/\aI G b c a/\et G b a I sr k/\a.PlainList D xs.toArray/\bL G b a xs us/\D∉b/\C∉b/\a.Ns C mC/\
   T m k c us/\xs.length<=k/\k+m<=B
def uy.elim{I D C:Addr}{sr:Src}{T:Nat->Nat->H->List V->Prop}{f:Nat->Nat->H->List V->Option V->Prop}{dq s:Shared}{dX:List Addr}{B m:Nat}{X:Nat->Shared->Prop}(h:uy G I D C sr T dq dX B m s)(g:∀m k U us,T m k U us->∃m' r,m=m'+1/\ea sr k U=.ok r U/\f m' k U us r)(j:∀a tk b c k xs us mC m r,Step dX dq.heap b a->aI G b c a->et G b a I sr k->a.PlainList D xs.toArray->bL G b a xs us->D∉b->C∉b->a.Ns C mC->ea sr k c=.ok r c->f m k c us r->xs.length<=k->k+(m+1)<=B->X (m+1) {dq with heap:=a,toks:=tk}):X m s:=by refine bB λx i=>?_;obtain⟨a,tk,b,c,k,xs,us,mC,rfl,st,S,l,o,p,q,t,d,u,hk,e⟩:=h;obtain⟨m,r,rfl,v,w⟩:=g _ _ _ _ u;exact i (j _ _ _ _ _ _ _ _ _ _ st S l o p q t d v w hk e)
def Mj{g iter:au}{x:Str}{px pos:Pos}{ifs:List au}{scope:Scope}{v:Nat}{br:List Nat}{cl:List (Str×Addr)}{I D C:Addr}{sr:Src}{f:V->M (Option V)}{R:Result->Shared->Prop}{dq:Shared}{dX:List Addr}{Ti:H}{L:aP}{B:Nat}{T:Nat->Nat->H->List V->Prop}{End:H->List V->Prop}{jv:H->Prop}{fe:Env}{outer:List Env}{Lf:Addr}(hh:A.handled=none)(mI:bC G N env dX dq.heap L)(Io:aI G dX Ti dq.heap)(Z:gZ N env scope x v br)(hcl:∀y,(y,NameKind.free)∈scope.names->cl.lookup y=env.cells.lookup y)(hI:dq.heap.get? I=none)(hD:dq.heap.get? D=none)(hC:dq.heap.get? C=none)(x8:I≠D)(hIC:I≠C)(hDC:D≠C)(hB:B<=aJ+1)(hT:∀m k U us,T m k U us->∃m' r,m=m'+1/\ea sr k U=.ok r U/\xp G.tg f (T m' (k+1)) End jv U us r)(X:∀z,TurnOk G A N (compEnvC scope cl C env) (cq (dj L br) v z) ifs g (f z))(hbad:∀F,jv F->Fs A fe outer Lf env dX dq.heap/\(∀z,AA G A N (compEnvC scope cl C env) (cq (dj L br) v z) ifs g (f z))/\∀e h i tk d base mC,Step dX dq.heap d h->aI G d F h->h.Ns C mC->C∉d->iZ (fe::outer) h base->gO base (fe::outer) e (G.cA 1) (rawInt Lf) i->h.UpToSlots i->R (.error (.ref e)) {dq with heap:=i,toks:=tk})(hR:∀i tk d xs mC dA all,End dA all->Step dX dq.heap d i->aI G d dA i->i.PlainList D xs.toArray->bL G d i xs all->D∉d->C∉d->i.Ns C mC->R (.ok .next) {dq with heap:=i,toks:=tk}):
  ∀(m:Nat)(s:Shared),uy G I D C sr T dq dX B m s->
   codeAny G.mo A (.compLoop (.ListComp g [#[.Name x px,iter,ifs,0]] scope pos) 0 (.ref I) (.ref D) (compEnvC scope cl C env)) R s:=by
 have ft:∀a,dq.heap.get? a=none->G.hb.get? a=none:=λa ha=>by
  cases e:G.hb.get? a with
  |none=>rfl
  |some o=>(replace ha:=(Io.base _ _ e)▸ha);exact ez ha
 intro m s J
 let W3:Nat->Shared->Prop:=λm s=>uy G I D C sr T dq dX B m s
 let ce:=compEnvC scope cl C env
 refine(show codeAny G.mo A (.compLoop (.ListComp g [#[.Name x px,iter,ifs,0]] scope pos) 0 (.ref I) (.ref D) ce) R s from codeAny_compLoop_tests W3 ?_ m J);clear J m s;intro m s hJ;apply uy.elim hJ hT;clear hJ m s hT;intro i tk d F k xs us mC m r st S z hl rl nG Y hns e1 e2 hk hkm
 ·refine And.right (tL hh S z e1 λxv h fT gH hv=>?_);refine bB λXx l=>?_;have ow:=z.own;have aG:aI G d F h:=S.iY (ow.kr S) (ft I hI) ow.oB gH;have oK:Step dX dq.heap d h:=st.other hI gH;have Hl:h.PlainList D xs.toArray:=let #[q,e]:=hl;#[q,gH D _ (Ne.symm x8) e]
  have xq:bL G d h xs us:=rl.mono (qZ ow gH) λ_ _ e=>e;have z9:h.Ns C mC:=hns.at λo e=>gH C o (Ne.symm hIC) e;clear e1;cases r with
  |none=>
   obtain rfl:xv=none:=hv;exact l (hR h fT d xs mC F us e2 oK aG Hl xq nG Y z9)
  |some AB=>
   refine ct (hv) λw bh BJ it₁=>?_;clear hv;subst bh;refine l ?_;clear l Xx;refine wpAny_assign_Name (wpAny_storeName_local (lookup_relabel_local Z.aa) z9 (λbt t9 Tj=>?_) (Hk Z.kind));refine bB λXx l=>?_;have hG:∀b o,b≠C->h.get? b=some o->bt.get? b=some o:=λb o hb e=>(Tj.2 b hb).trans e;have o4:=pF z9;have AD:∀a p,IsTup h a p->IsTup bt a p:=λa p t=>by
    have:=o4 a p t;obtain⟨o,e,c⟩:=t;exact#[o,hG a o this e,c]
   have bY:aI G d F bt:=aG.iY Y (ft C hC) o4 hG;have cK:Step dX dq.heap d bt:=oK.other hC hG;have dH:=(mI.step Io cK).inner Z hcl t9 (by simp) (BJ.mono AD λ_ _ e=>e) Y (ft C hC);have Hm:bt.PlainList D xs.toArray:=let #[q,e]:=Hl;#[q,hG D _ hDC e]
   rcases e2 with ⟨y,bP,e3,e5⟩|⟨bP,e3,eb⟩
   rotate_left
   ·refine g8 (hbad bP eb) λA3 hX BK=>?_;have ua:=A3.step cK;have lu:Fs A fe outer Lf (compEnvC scope cl C env) d bt:=#[ua.fr,ua.fl,ua.qK,ua.alive,ua.own];refine l (hX AB _ d F bP fe outer Lf _ _ _ dH bY lu e3 λe K ey jc Q j dI x=>?_);refine vN (lu.step j) x λsg base Uu hd u=>BK e K sg jc Q base _ (cK.trans j) dI (t9.at λo e=>j.keep C o e Y) (λq=>?_) Uu hd u;rcases j.fresh C q with q|q
    ·exact Y q
    ·exact bB λXx l=>g9 (t9) λo _ _ e _=>l (absurd (e.symm.trans q) (by simp))
   refine l (X AB _ d F bP y _ _ _ dH bY e3 λK fk Q j dI=>?_);clear l Xx;have inD:∀{a:Addr}{o:Obj},bt.get? a=some o->a∉d->a∉Q:=λ{a o} e hn q=>by
    rcases j.fresh a q with q|q
    ·exact hn q
    ·exact absurd (e.symm.trans q) (by simp)
   have qx:Step dX dq.heap Q K:=cK.trans j;have Hn:=(it₁.mono (λo e=>hG I o hIC e) AD λ_ _ e=>e).step bY j;have AE:K.PlainList D xs.toArray:=let #[q,e]:=Hm;#[q,j.keep D _ e nG]
   have Aa:D∉Q:=let #[q,e]:=Hm;inD e nG
   have Gw:C∉Q:=by obtain⟨o,_,_,e,_⟩:=t9;exact inD e Y
   have Gx:K.Ns C _:=t9.at λo e=>j.keep C o e Y;have Ho:=(xq.mono AD λ_ _ e=>e).step j bY;clear e3;cases y with
   |none=>
    refine#[m,Nat.lt_succ_self _,K,fk,Q,bP,k+1,xs,us,_,rfl,qx,dI,Hn,AE,Ho,Aa,Gw,Gx,by simpa using e5,kF hk,Jp hkm]
   |some u=>
    intro wy Vd;refine wpAny_list_append_plain AE (λey Tl AF=>?_) (by(refine(List.size_toArray)▸?_);exact Vb hk hkm hB);have uc:∀b o,b≠D->K.get? b=some o->ey.get? b=some o:=λb o hb e=>(AF.2 b hb).trans e;have Jq:=Lj AE;have Hp:∀a p,IsTup K a p->IsTup ey a p:=λa p t=>by
     have:=Jq a p t;obtain⟨o,e,c⟩:=t;exact#[o,uc a o this e,c]
    refine#[m,Nat.lt_succ_self _,ey,fk,Q,bP,k+1,xs++[wy],us++[u],_,rfl,qx.other hD uc,dI.iY Aa (ft D hD) Jq uc,Hn.mono (λo e=>uc I o x8 e) Hp (λ_ _ e=>e),?_,(Ho.append (.cons Vd .nil)).mono Hp (λ_ _ e=>e),Aa,Gw,
     Gx.at (λo e=>uc C o (Ne.symm hDC) e),e5,Vc hk,Jp hkm]
    have e:xs.toArray.push wy=(xs++[wy]).toArray:=by simp
    (refine e▸?_);exact Tl
end
section
variable{G:Gd}{n:Nat}{A:Around}{N:List Str}{env:Env}
def EJ{d iter:au}{x:Str}{px pos:Pos}{ifs:List au}{scope:Scope}{v:Nat}{br:List Nat}{cl:List (Str×Addr)}{I:Addr}{sr:Src}{f:V->M (Option V)}{use:Option (Value->Sem Unit)}{Q:bN}{E:bN}{bE:Shared}{q:List Addr}{aw:H}{L:aP}{B cJ:Nat}{i:Heap}{T:Nat->Nat->H->List V->Prop}{R:H->List V->Prop}{jv:H->Prop}{fe:Env}{outer:List Env}{Lf:Addr}(hh:A.handled=none)(bu:bC G N env q bE.heap L)(X:aI G q aw bE.heap)(Z:gZ N env scope x v br)(hcl:∀y,(y,NameKind.free)∈scope.names->cl.lookup y=env.cells.lookup y)(hI:bE.heap.objs.size<=I)(hk:∀b o,bE.heap.get? b=some o->i.get? b=some o)(s:et G q i I sr 0)(hB:B<=aJ+1)(hT:∀m k U us,T m k U us->∃m' r,m=m'+1/\ea sr k U=.ok r U/\xp G.tg f (T m' (k+1)) R jv U us r)(ec:T B 0 aw [])(w:∀C s,TurnOk G A N (compEnvC scope cl C env) (cq (dj L br) v s) ifs d (f s))(Y:∀C ah,bE.heap.get? C=none->jv ah->Fs A fe outer Lf env q bE.heap/\(∀s,AA G A N (compEnvC scope cl C env) (cq (dj L br) v s) ifs d (f s))/\∀D e z g tk h base mC,Step q bE.heap h z->aI G h ah z->z.Ns C mC->C∉h->iZ (fe::outer) z base->gO base (fe::outer) e (G.cA 1) (rawInt Lf) g->z.UpToSlots g->compPost G.mo A E use Q (.ref D) C (.error (.ref e)) {bE with heap:=g,toks:=tk})(hend:∀D C g tk h xs mC dA l,R dA l->bE.heap.get? D=none->bE.heap.get? C=none->D≠C->Step q bE.heap h g->aI G h dA g->g.PlainList D xs.toArray->bL G h g xs l->D∉h->C∉h->g.Ns C mC->
   compPost G.mo A E use Q (.ref D) C (.ok .next) {bE with heap:=g,toks:=tk}):
  wpAny G.mo A (newList []) (λacc ib=>wpAny G.mo A (newFunctionEnv scope env.globals cl [] env.qual none .none (some env)) (λt qy=>
   codeAny G.mo A (.compStart (.ListComp d [#[.Name x px,iter,ifs,0]] scope pos) 0 (.ref I) acc {t with scope:=relabel scope env}) (compPost G.mo A E use Q acc t.locals) qy) E ib) E {bE with heap:=i,toks:=cJ}:=by
 have BL:I<i.objs.size:=let #[_,_,e,_]:=s.own;Heap.lt_size e
 have p:bE.heap.objs.size<=i.objs.size:=Nat.le_of_lt (Nat.lt_of_le_of_lt hI BL);have J:∀a,bE.heap.objs.size<=a->bE.heap.get? a=none:=λa ha=>Heap.get?_none_of_le ha;refine wpAny_newObj_type (wpAny_newFunctionEnv Z.Gv (by intro y hy;simp at hy) (λey Ab wY=>?_) Z.kind);dsimp only at Ab wY ⊢;generalize BM:i.push {cls:=.type "list",dict:=none,data:=.seq ([]:List Value).toArray}=K at Ab wY ⊢;have hC:K.objs.size=i.objs.size+1:=by rw[←BM,Heap.size_push]
 have old:∀b o,i.get? b=some o->ey.get? b=some o:=λb o e=>
  wY.extBut b o (by(refine hC▸?_);exact Nat.ne_of_lt (Nat.lt_succ_of_lt (Heap.lt_size e))) (Heap.get?_push_of_some _ (BM▸Heap.get?_push_of_some _ e))
 have F:i.objs.size≠K.objs.size:=by(refine hC▸?_);exact Nat.ne_of_lt (Nat.lt_succ_self _)
 have x8:I≠i.objs.size:=Nat.ne_of_lt BL;have hIC:I≠K.objs.size:=by(refine hC▸?_);exact Nat.ne_of_lt (Nat.lt_succ_of_lt BL)
 have j:∀b o,bE.heap.get? b=some o->ey.get? b=some o:=λb o e=>old b o (hk b o e);have Hq:et G q ey I sr 0:=s.mono (λo e=>old _ _ e) (λa xs #[o,e,c]=>#[o,old _ _ e,c]) λ_ _ e=>e;have xK:bE.heap.objs.size<=K.objs.size:=by(refine hC▸?_);exact kF p
 have u:codeAny G.mo A (.compLoop (.ListComp d [#[.Name x px,iter,ifs,0]] scope pos) 0 (.ref I) (.ref i.objs.size) (compEnvC scope cl K.objs.size env))
   (compPost G.mo A E use Q (.ref i.objs.size) K.objs.size) {bE with heap:=ey,toks:=cJ+([]:List (Str×Value)).length}:=
  Mj hh bu X Z hcl (J _ hI) (J _ p) (J _ xK) x8 hIC F hB hT (w _)
   (λah b=>let #[a1,a2,a3]:=Y _ ah (J _ xK) b;#[a1,a2,λe z g tk h base mC=>a3 _ e z g tk h base mC])
   (λg tk h xs mC dA l he st S hl rl h1 h2 hn=>hend _ _ g tk h xs mC dA l he (J _ p) (J _ xK) F st S hl rl h1 h2 hn) B _
   #[ey,_,q,aw,0,[],[],_,rfl,(Step.grow X j),(X.grow j),Hq,(#[0,wY.extBut _ _ F (Heap.get?_push_of_some _ (BM▸Heap.get?_push_size _ rfl))]),.nil,(X.fresh p),(X.fresh xK),Ab,ec,by simp,~~~a7 jG rfl]
 exact codeAny_compStart_list u (OV Hq u)
def DK{d iter:au}{x:Str}{px pos:Pos}{ifs:List au}{scope:Scope}{v:Nat}{br:List Nat}{cl:List (Str×Addr)}{I:Addr}{sr:Src}{f:V->M (Option V)}{use:Option (Value->Sem Unit)}{Q:bN}{E:bN}{bE:Shared}{l:List Addr}{s p:H}{L:aP}{a:List V}{B u:Nat}{q:Heap}(hh:A.handled=none)(w:bC G N env l bE.heap L)(z:aI G l s bE.heap)(Z:gZ N env scope x v br)(r:∀y,(y,NameKind.free)∈scope.names->cl.lookup y=env.cells.lookup y)(F:bE.heap.objs.size<=I)(hk:∀b o,bE.heap.get? b=some o->q.get? b=some o)(m:et G l q I sr 0)(J:B<=aJ+1)(K:dG sr f B 0 s=.ok a p)(h:∀C m,TurnOk G A N (compEnvC scope cl C env) (cq (dj L br) v m) ifs d (f m))(j:∀D C e tk i xs mC,bE.heap.get? D=none->bE.heap.get? C=none->D≠C->Step l bE.heap i e->aI G i p e->e.PlainList D xs.toArray->bL G i e xs a->D∉i->C∉i->e.Ns C mC->
   compPost G.mo A E use Q (.ref D) C (.ok .next) {bE with heap:=e,toks:=tk}):
  wpAny G.mo A (newList []) (λk R=>wpAny G.mo A (newFunctionEnv scope env.globals cl [] env.qual none .none (some env)) (λg U=>
   codeAny G.mo A (.compStart (.ListComp d [#[.Name x px,iter,ifs,0]] scope pos) 0 (.ref I) k {g with scope:=relabel scope env}) (compPost G.mo A E use Q k g.locals) U) E R) E {bE with heap:=q,toks:=u}:=
 EJ (fe:=env) (outer:=[]) (Lf:=0) hh w z Z r F hk m J (T:=x7 sr f a p) (λ_ _ _ _ c=>c.next) #[a,K,rfl] h (λ_ _ _ b=>b.elim) λD C e tk i xs mC WE t X=>by
  refine bB λXx Y=>?_;obtain⟨rfl,rfl⟩:=X;exact Y (j D C e tk i xs mC)
def C6{g iter:au}{x:Str}{px pos:Pos}{ifs:List au}{scope:Scope}{v:Nat}{br:List Nat}{cl:List (Str×Addr)}{I:Addr}{sr:Src}{f:V->M (Option V)}{Q:bN}{E:bN}{bE:Shared}{l:List Addr}{U:H}{L:aP}{B cJ:Nat}{w:Heap}(hh:A.handled=none)(bu:bC G N env l bE.heap L)(X:aI G l U bE.heap)(Z:gZ N env scope x v br)(z:∀y,(y,NameKind.free)∈scope.names->cl.lookup y=env.cells.lookup y)(hI:bE.heap.objs.size<=I)(hk:∀b o,bE.heap.get? b=some o->w.get? b=some o)(r:et G l w I sr 0)(hB:B<=aJ+1)(k:∀C r,TurnOk G A N (compEnvC scope cl C env) (cq (dj L br) v r) ifs g (f r))(h:PV G (M.bind (dG sr f B 0) (λvs=>dB (.af vs)) U) l bE Q):
  wpAny G.mo A (newList []) (λm ib=>wpAny G.mo A (newFunctionEnv scope env.globals cl [] env.qual none .none (some env)) (λj qy=>
   codeAny G.mo A (.compStart (.ListComp g [#[.Name x px,iter,ifs,0]] scope pos) 0 (.ref I) m {j with scope:=relabel scope env}) (compPost G.mo A E none Q m j.locals) qy) E ib) E {bE with heap:=w,toks:=cJ}:=by
 refine bl (aR.bind h) λF dA ec h1=>?_;have Y:∀a,bE.heap.get? a=none->G.hb.get? a=none:=λa J=>by
  cases e:G.hb.get? a with
  |none=>rfl
  |some o=>(replace J:=(X.base _ _ e)▸J);exact ez J
 refine DK hh bu X Z z hI hk r hB ec k λD C h' tk aA xs mC hD hC K st S hl rl nG iq p=>#[mC,p,λd hs=>?_];have s:∀b o,b≠C->h'.get? b=some o->d.get? b=some o:=λb o hb e=>(hs.2 b hb).trans e;have o4:=pF p;have tu:∀a u,IsTup h' a u->IsTup d a u:=λa u t=>by
  have:=o4 a u t;obtain⟨o,e,c⟩:=t;exact#[o,s a o this e,c]
 have S':aI G aA dA d:=S.iY iq (Y C hC) o4 s;have R:Step l bE.heap aA d:=st.other hC s;have T:d.PlainList D xs.toArray:=let #[q,e]:=hl;#[q,s D _ K e]
 exact aX (S'.adopt nG (Y D hD) (o:=.af F) #[xs,T,(rl.mono tu λ_ _ e=>e).mono (λ_ _ t=>t) λi b e=>by rw[List.getElem?_append_left (List.getElem?_eq_some_iff.mp e).1];exact e]) λBI hi=>h1 (.ref D) d tk _ (R.adopt hD) BI (.ref hi)
abbrev kt:au->Bool
|.Set ..=>false
|_=>true
def nP(h:kt iter=true):∀x,foldedSetIterable iter env x=pure x:=λx=>by
 cases iter<;>first|rfl|exact ff h
def EK{w src:E}{a iter:au}{x:Str}{px pos:Pos}{ifs:List au}{scope:Scope}{v:Nat}{br:List Nat}{f:aP->V->M (Option V)}(Y:Ao A n)(F:a9 G n A N env src iter)(Z:gZ N env scope x v br)(l:kt iter=true)(m:∀L U,aj (G.ctx n) w L U=M.bind (aj (G.ctx n) src L) (λx=>M.bind (srcOf x) λj=>M.bind (fh j) λk=>if k<=aJ then M.bind (dG j (λb=>f (cq (dj L br) v b) b) (k+1) 0) λo=>dB (.af o) else M.fail) U)(d:∀cl C L b,(∀y,(y,NameKind.free)∈scope.names->cl.lookup y=env.cells.lookup y)->TurnOk G A N (compEnvC scope cl C env) L ifs a (f L b)):
  a9 G n A N env w (.ListComp a [#[.Name x px,iter,ifs,0]] scope pos):=λs J U L Q E X S h=>by
 rw[m] at h;have K:∀y∈scope.names,y.2=.free->(env.cells.lookup y.1).isSome=true:=λy P R=>by
  refine bl (X.cl y.1 (Z.free y P R)) λc _ T _=>?_
  (refine T▸?_);rfl
 refine aQ (sO K) λcl e g=>?_;rw[eval_ListComp];refine wpAny_comprehension_free rfl (nP l) e Z.kind Z.locs (F.then X S h λxv aC tk aL aw u bu p st r z=>?_);refine bl (aR.bind z) λj bP q h2=>(kU p r q λI bt hI hk b=>?_).2;refine bB λXx aH=>aX (kU (s:={s with heap:=aC,toks:=tk}) (A:=A) (E:=λ_ _=>True) (Q:=λ_ _=>True) p r q (λ_ _ _ _ _=>trivial)) λcM _=>?_;clear q z;subst cM;refine bl (aR.bind h2) λk eE B h3=>?_;have Ve:eE=bP:=by
  cases j with
  |fix o=>(apply fO B);rfl
  |live i=>
   refine bl (eJ B) λo ah D e5=>ct (eT D) λ_ _ aW _=>?_;clear D;subst aW;(apply fO e5);rfl
 subst Ve;obtain⟨t,h4⟩:=aR.ite h3;exact aH (C6 Y.hh bu p Z g hI hk b (aM tx rfl t) (λC b=>d cl C _ b g) h4)
end
end Qh
namespace Qh
set_option backward.match.sparseCases false
open PySem PySem.W PyProof.Rows
section
variable{t:Nat}
def bH.eg{v:V}:bH t (eg v):=by cases v<;>first|exact .pure|exact .fail
def bH.iM{a b:V}:bH t (iM a b):=by cases a<;>first|exact .fail|(cases b<;>first|exact .fail|exact .pure|exact .ite .pure .fail|exact .bind .bO λ_=>.bind .bO λ_=>.ite .pure .fail)
def bH.among{x:V}{vs:List V}:bH t (among x vs):=by unfold Qh.among;split<;>first|exact .pure|exact .ite .pure .fail
def bH.gR{x c:V}:bH t (gR x c):=by
 cases c with
|ay vs=>exact .among
|str s=>show bH t (match x with|.str y=>_|_=>M.fail);cases x<;>first|exact .fail|exact .ite .pure .fail
|ref i=>
  refine .bind .cH λo=>?_;cases o with
  |af vs=>exact .among
  |az es=>show bH t (match x with|.str k=>_|_=>M.fail);cases x<;>first|exact .fail|exact .pure
  |_=>exact .fail
|_=>exact .fail
def bH.dh{c:CmpOp}{a b:V}:bH t (dh c a b):=by
 cases c with
|Eq=>exact .iM
|NotEq=>exact .bind .iM λ_=>.pure
|Lt=>exact .bind .dQ λ_=>.bind .dQ λ_=>.pure
|Gt=>exact .bind .dQ λ_=>.bind .dQ λ_=>.pure
|LtE=>exact .bind .dQ λ_=>.bind .dQ λ_=>.pure
|In=>exact .gR
|NotIn=>exact .bind .gR λ_=>.pure
|_=>exact .fail
def bH.iH{v:V}:bH t (iH v):=by cases v<;>first|exact .fail|exact .bind .cH λo=>(by cases o<;>first|exact .fail|exact .bind .cH λo=>(by cases o<;>first|exact .fail|exact .pure))
def bH.kn{v:V}:bH t (kn v):=.bind .bO λ_=>.ite .pure .fail
end
section
variable{G:Gd}{n:Nat}{A:Around}{N:List Str}{env:Env}
def Ny{c:CmpOp}{a b:E}{l r:au}{p:Pos}(e:a9 G n A N env a l)(f:eP G n A N env a l)(g:a9 G n A N env b r)(h:eP G n A N env b r)(i:behindInMarks c r=false):xH G n A N env (.cmp c a b) (.Compare l [c] [r] p):=λs J U L x y d z Q E X S F j px=>
 wpAny_isTrue_Compare1 (oJ e f X S F j px λv B C D I u k m st o r q t=>oJ g h k m o q t λv' K P R T Y Z bY cK lu r' w xI=>no .dh w) i
def Ml{a:E}{e:au}{p' p:Pos}(K:cP G)(d:a9 G n A N env a e)(f:eP G n A N env a e)(hk:env.kindOf "tuple"=some .globalImplicit)(c:starEach [e] env=[(false,eval e env)]):eP G n A N env (.tuple a) (.Call (.Name "tuple" p') [e] [] p):=λs J U L i j b k Q E X S F g px=>by
 refine wpAny_Call_NameR (wpAny_Name (pL K S X hk (by decide+kernel) boot_tuple ?_) (by decide+kernel));refine callWith_type1 ?_ c rfl;exact args_cons (oJ d f X S F g px λv l m o q u t w st x r h y=>no .kn h) c
def Nz{f:Nat}{x:Str}{es:EL}{e:au}{args:List au}{p' p:Pos}{fn:Fn}(K:cP G)(g:jb G)(Y:Ao A n)(C:qi G n)(xf:G.xf f)(h:gB G n A N env es (e::args))(i:mE G n A N env es (e::args))(c:G.P.fns f=some fn)(j:G.fN f=x)(k:G.fq f=true)(hk:env.kindOf x=some .globalImplicit)(l:(x==("__debug__":Str))=false)(m:starEach (e::args) env=(false,eval e env)::starEach args env):eP G n A N env (.call f es) (.Call (.Name x p') (e::args) [] p):=λs J U L q t a w Q E X S F y px=>by
 refine bl (g f fn c) λo Z z b=>wpAny_Call_NameR (wpAny_Name (zK K S X hk c k j ?_) l);exact callWith_def b (tS h i X S F y px λv aC tk B D u bu d st I r R T=>#[d.base _ _ z,C A Y t a w env f xf u v _ B D q Q E d r I R T]) m
end
set_option backward.match.sparseCases true
end Qh
namespace Qh
open PySem PySem.W PyProof.Rows
section
variable{G:Gd}{n:Nat}{A:Around}{N:List Str}{env:Env}
def iZ.hide(B:iZ l h base):iZ l (hid h [C]) (hid base [C]):=by
 refine#[λb o e=>?_,λb o e a=>?_]
 ·by_cases q:b=C
  ·(replace e:=(rn _ (.head _))▸(q▸e));exact bR e
  ·exact tM _ (B.sub b o (mx _ e)) (by simpa using q)
 ·by_cases q:b=C
  ·(replace e:=(rn _ (.head _))▸(q▸e));exact bR e
  ·exact tM _ (B.sup b o (mx _ e) a) (by simpa using q)
def gO.hide(B:gO base l e Cx fl h)(D:h.Ns C m)(k:C∉places l)(p:Heap.SameBut C h h'):gO (hid base [C]) l e Cx fl h':=by
 obtain⟨f1,f2,f3,F,r,vs,T,s,I,g,a,c,t,u,v,i,j,w⟩:=B;refine aQ (wJ D) λoC J K=>?_;have ne:∀{b o vs},h.get? b=some o->o.data=.fields vs->b≠C:=λ{b o vs} e d q=>by
  (replace e:=J▸(q▸e));(refine d7 e λQ=>?_;subst Q);exact K _ d
 have keep:∀b o,b≠C->h.get? b=some o->h'.get? b=some o:=λb o hb e=>(p.2 b hb).trans e;have f:∀b,base.get? b=none->(hid base [C]).get? b=none:=λb hb=>by
  cases q:(hid base [C]).get? b with
  |none=>rfl
  |some o=>(replace hb:=(mx _ q)▸hb);exact ez hb
 refine#[λb o q=>keep b o (λz=>?_) (f1 b o (mx _ q)),f e f2,?_,F,r,vs,T,s,I,keep e r (ne g c) g,a,c,t,f T u,v,keep T s (ne i j) i,j,w]
 ·(replace q:=(rn _ (.head _))▸(z▸q));exact bR q
 ·clear p g a c t u v i j w
  induction l with
  |nil=>trivial
  |cons env rest R=>
   obtain⟨U,⟨L,o,y,X,Y,Z⟩,g6⟩:=f3
   exact#[U,#[L,o,y,f L X,keep L o (λq=>k (q▸List.mem_filterMap.mpr #[env,.head _,y])) Y,Z],R (λq=>k (by
    refine aQ (List.mem_filterMap.mp q) λx hx hf=>?_
    exact List.mem_filterMap.mpr #[x,.tail _ hx,hf])) g6]
def bH.srcOf:bH t (srcOf v):=by cases v<;>first|exact .fail|exact .pure|exact .bind .bO λ_=>.pure|exact .ite .pure .fail
def bH.fh:bH t (fh v):=by cases v<;>first|exact .pure|exact .bind .bO λ_=>.pure
def Mm(a:fh sr U=.ok k eE):eE=U:=by
 cases sr with
|fix c=>(apply fO a);rfl
|live i=>
  refine bl (eJ a) λc f b d=>ct (eT b) λ_ _ e _=>?_;clear b;(clear a;subst e);(apply fO d);rfl
def NB(Y:Ao A n)(hE:a9 G n A N env src iter)(Vg:eP G n A N env src iter)(Z:gZ N env scope x v br)(l:kt iter=true)(a:∀cl C,a9 G n A N (compEnvC scope cl C env) elt elt')(hX:∀cl C,eP G n A N (compEnvC scope cl C env) elt elt'):
  eP G n A N env (.comp elt v br src) (.ListComp elt' [#[.Name x px,iter,[],0]] scope pos):=λs J U L m fe outer Lf Q E X S F ev Vh=>by
 have my:∀y∈scope.names,y.2=.free->(env.cells.lookup y.1).isSome=true:=λy hy hf=>by
  refine bl (X.cl y.1 (Z.free y hy hf)) λc _ i _=>?_
  (refine i▸?_);rfl
 refine aQ (sO my) λcl d p=>?_;rw[eval_ListComp];refine wpAny_comprehension_free (use:=none) rfl (nP l) d Z.kind Z.locs (oJ hE Vg X S F ev Vh λxv aC tk aL aw u bu j st t r e0 gP=>?_);rcases j6 e0 with z|⟨sr,bP,w,e3⟩
 ·exact no .srcOf z
 refine(kU (s:={s with heap:=aC,toks:=tk}) j r w λI bt hI hk f=>?_).2;refine aX (kU (s:={s with heap:=aC,toks:=tk}) (A:=A) (E:=λ_ _=>True) (Q:=λ_ _=>True) j r w (λ_ _ _ _ _=>trivial)) λcM _=>?_;clear w e0;subst cM;rcases j6 e3 with z|⟨k,eE,e4,g⟩
 ·exact no .fh z
 obtain rfl:=Mm e4;have h:k<=aJ:=by
  by_cases i:k<=aJ
  ·exact i
  ·(replace g:=(if_neg i)▸g);exact no .fail g
 replace g:=(if_pos h)▸g;have e6:dG sr (λf=>M.bind (aj (G.ctx n) elt (cq (dj L br) v f)) λy=>M.pure (some y)) (k+1) 0 eE=.aF G.tg m:=by
  rcases j6 g with z|⟨_,_,_,z⟩
  ·exact z
  ·exact no .dB z
 refine EJ (fe:=fe) (outer:=outer) (Lf:=Lf) Y.hh bu j Z p hI hk f (T:=xJ G.tg sr (λf=>M.bind (aj (G.ctx n) elt (cq (dj L br) v f)) λy=>M.pure (some y)) m) (~~~aM tx rfl h) (λ_ _ _ _ c=>c.next) e6 (λC f=>sP (a cl C)) (λC da K hb=>?_) λ_ _ _ _ _ _ _ _ _ he=>he.elim;obtain rfl:da=m:=hb;refine#[t,λf=>Li (hX cl C),λD e R ey jc oH base mC jd ia AG iq B hd u=>?_];refine#[mC,u.ns AG,λsg Hr cenv _=>?_];have WG:=t.step jd;have Vi:C∉places (fe::outer):=λq=>by
  exact aQ (n7 t.alive q) λo e _=>absurd (e.symm.trans K) (by simp)
 have ft:G.hb.get? C=none:=by
  cases q:G.hb.get? C with
  |none=>rfl
  |some o=>exact absurd ((j.base _ _ q).symm.trans K) (by simp)
 have gS:∀b o,b≠C->R.get? b=some o->(hid R [C]).get? b=some o:=λb o hb e=>tM _ e (by simpa using hb);refine Nw B.hide (hd.hide (u.ns AG) Vi Hr) (λb o e hnf=>?_) λUv x=>?_
 ·have hb:b≠C:=λq=>by(replace e:=(rn _ (.head _))▸(q▸e));exact bR e
  obtain⟨sl,e'⟩:=u b o (mx _ e) hnf;exact#[sl,(Hr.2 b hb).trans e']
 ·exact gP e (hid R [C]) Uv jc oH (jd.other K gS) (ia.iY iq ft (pF AG) gS) x
end
end Qh
namespace Qh
open PySem PyProof.Rows
section
variable{G:Gd}{n:Nat}{A:Around}{N:List Str}{env:Env}
def Lb(k:Int):d9 k=d9 (k.toNat:Int):=by unfold d9;rw[Int.toNat_natCast]
def vo{a:E}{e:au}{z i:Pos}(K:cP G)(B:a9 G n A N env a e)(hk:env.kindOf "range"=some .globalImplicit)(p:starEach [e] env=[(false,eval e env)]){s:Shared}{J:List Addr}{U:H}{L:aP}{α q:Type}{R:List Addr->Heap->q->α->Prop}{g:Int->M α}{Q:q->Shared->Prop}{t:bN}{E:bN}(X:bC G N env J s.heap L)(S:aI G J U s.heap)(h:aR G R (M.bind (aj (G.ctx n) a L) (λx=>M.bind (dQ x) λk=>if 0<=k/\k<=1000000 then g k else M.fail) U) J s Q)(C:∀I c j tk D d l k,bC G N env d c L->aI G d l c->Step J s.heap d c->0<=k/\k<=1000000->aR G R (g k l) d {s with heap:=c,toks:=tk} Q->c.objs.size<=I->(∀b o,c.get? b=some o->j.get? b=some o)->
   et G d j I (.fix (d9 k)) 0->t (.ref I) {s with heap:=j,toks:=D}):
  wpAny G.mo A (eval (.Call (.Name "range" z) [e] [] i) env) (λF T=>wpAny G.mo A (pyIter F) t E T) E s:=by
 refine wpAny_Call_NameR (wpAny_Name (pL K S X hk (by decide+kernel) boot_range ?_) (by decide+kernel));refine callWith_type1 (args_cons (B.then X S h λy c tk d l u Y Z st r v=>args_nil ?_) p) p rfl;refine bl (aR.bind v) λk bP w h2=>aX (j5 w) λcM bh=>?_;clear w;(clear v;subst cM);subst bh;obtain⟨f,h3⟩:=aR.ite h2;(apply eY r;intro _);refine call_range_1 ?_;have h0:=f.1
 ·refine wpAny_pyIter_range (IsRange.new ..) (small_one ∅ ∅ (by lia) (bw 0x700700700700700700700700700790184c049049205007247d078cc rfl f.2)) ?_;have m:Builtin.Range.rangeSize 0 k 1=(k.toNat:Int):=by rw[rangeSize_one];split<;>lia
  refine C _ c _ tk _ d bP k Y Z st f h3 (by simp[Heap.size_push]) (λb o e=>Heap.get?_push_of_some _ (Heap.get?_push_of_some _ e)) ?_;rw[Lb];refine .range (gp _) ?_;have:(k.toNat:Int)-((0:Nat):Int)=Builtin.Range.rangeSize 0 k 1:=by(refine m.symm▸?_);rfl
  exact(this)▸Heap.get?_push_size _ rfl
def NC{elt src:E}{a e:au}{x:Str}{px pos l f:Pos}{scope:Scope}{v:Nat}{br:List Nat}(K:cP G)(Y:Ao A n)(m:a9 G n A N env src e)(Z:gZ N env scope x v br)(hk:env.kindOf "range"=some .globalImplicit)(o:starEach [e] env=[(false,eval e env)])(b:∀cl C,(∀y,(y,NameKind.free)∈scope.names->cl.lookup y=env.cells.lookup y)->a9 G n A N (compEnvC scope cl C env) elt a):
  a9 G n A N env (.fZ elt v br src) (.ListComp a [#[.Name x px,.Call (.Name "range" l) [e] [] f,[],0]] scope pos):=λs J U L Q E X S h=>by
 have p:∀y∈scope.names,y.2=.free->(env.cells.lookup y.1).isSome=true:=λy q r=>by
  refine bl (X.cl y.1 (Z.free y q r)) λc _ t _=>?_
  (refine t▸?_);rfl
 refine aQ (sO p) λcl d g=>?_;rw[eval_ListComp];refine wpAny_comprehension_free rfl (nP rfl) d Z.kind Z.locs (vo K m hk o X S h λI u R w T aL aw k z B st D F P i j=>?_);exact C6 (bE:={s with heap:=u,toks:=w}) Y.hh z B Z g P i j (by have:aJ=1000000:=rfl;lia) (λC j=>sP (b cl C g)) F
end
end Qh
set_option tactic.hygienic true
namespace Qh
open PySem PyProof.Rows
inductive jn(G:Gd)(J:List Addr)(h:Heap):Flow->Fl->Prop
|next:jn G J h .next .next
|brk:jn G J h .brk .brk
|cont:jn G J h .cont .cont
|ret {v:Value}{u:V}:Rel G J h v u->jn G J h (.ret v) (.ret u)
abbrev PS(G:Gd)(N:List Str)(env:Env)(r:RN Fl)(J:List Addr)(s:Shared)(Q:Flow->Shared->Prop):Prop:=
 match r with
|.ok f L' c=>∀fl a tk b,d5 env J s.heap b a->aI G b c a->bC G N env b a L'->jn G b a fl f->Q fl {s with heap:=a,toks:=tk}
|_=>False
section
variable(G:Gd)(n:Nat)(A:Around)(N:List Str)(env:Env)
abbrev dU(x:S)(st:Stmt):Prop:=∀(s:Shared)(J:List Addr)(U:H)(L:aP)(Q:Flow->Shared->Prop)(E:bN),bC G N env J s.heap L->aI G J U s.heap->
 PS G N env (cT (G.ctx n) x L U) J s Q->wpAny G.mo A (exec st env) Q E s
abbrev iN(x:SL)(a:List Stmt):Prop:=∀(s:Shared)(J:List Addr)(U:H)(L:aP)(Q:Flow->Shared->Prop)(E:bN),bC G N env J s.heap L->aI G J U s.heap->
 PS G N env (a8 (G.ctx n) x L U) J s Q->wpAny G.mo A (execs a env) Q E s
end
section
variable{G:Gd}{n:Nat}{A:Around}{N:List Str}{env:Env}{s:Shared}{J aA:List Addr}{U ah:H}{h h':Heap}{L:aP}{E:bN}{Q:Flow->Shared->Prop}
def iN.at{x:SL}{a:List Stmt}{f:Fl}{L':aP}(hb:iN G n A N env x a)(X:bC G N env J s.heap L)(S:aI G J U s.heap)(e:a8 (G.ctx n) x L U=.ok f L' ah)(k:∀fl h' tk aA,d5 env J s.heap aA h'->aI G aA ah h'->bC G N env aA h' L'->jn G aA h' fl f->Q fl {s with heap:=h',toks:=tk}):wpAny G.mo A (execs a env) Q E s:=hb s J U L Q E X S (e▸k)
def PS.bind{α:Type}{m:Qh.N α}{f:α->Qh.N Fl}(h:PS G N env (Qh.N.bind m f L U) J s Q):∃a eL aw,m L U=.ok a eL aw/\PS G N env (f a eL aw) J s Q:=by
 unfold Qh.N.bind at h
 split at h
 ·rename_i a L' ah e;exact#[a,L',ah,e,h]
 ·exact h.elim
 ·exact h.elim
def FK{α:Type}{m:aP->M α}{a:α}{eL:aP}{aw:H}(e:Qh.N.lift m L U=.ok a eL aw):eL=L/\m L U=.ok a aw:=by
 unfold Qh.N.lift at e
 split at e
 ·rename_i a' ah e';(apply xY e);exact#[rfl,e']
 ·exact Ji e
 ·exact qG e
def PS.lift{α:Type}{m:aP->M α}{f:α->Qh.N Fl}(h:PS G N env (Qh.N.bind (Qh.N.lift m) f L U) J s Q):∃a b,m L U=.ok a b/\PS G N env (f a L b) J s Q:=by refine g9 (PS.bind h) λa i b e c=>aX (FK e) λd g=>?_;clear e;(clear h lift;subst d);exact#[a,b,g,c]
def PS.step{r:RN Fl}{d:Heap}{tk:Nat}{e:List Addr}(h:PS G N env r J s Q)(x:d5 env J s.heap e d):PS G N env r e {s with heap:=d,toks:=tk} Q:=by
 cases r with
|ok a L ah=>exact λb h' f aA y S X r=>h b h' f aA (x.trans y) S X r
|aF c L ah=>exact h
|bad=>exact h
def PS.here{f:Fl}{fl:Flow}{tk:Nat}(h:PS G N env (.ok f L U) J s Q)(S:aI G J U s.heap)(X:bC G N env J s.heap L)(r:jn G J s.heap fl f):Q fl {s with toks:=tk}:=
 h fl s.heap tk J (d5.refl _ _ _) S X r
def PS.cG{f:Fl}{fl:Flow}(h:PS G N env (.ok f L U) J s Q)(S:aI G J U s.heap)(X:bC G N env J s.heap L)(r:jn G J s.heap fl f):Q fl s:=h.here S X r
def a9.gI{x:Qh.E}{e:au}(g:a9 G n A N env x e){f:V->Qh.N Fl}{d:bN}(X:bC G N env J s.heap L)(S:aI G J U s.heap)(h:PS G N env (Qh.N.bind (Qh.N.lift (aj (G.ctx n) x)) f L U) J s Q)(k:∀v a tk b c u,bC G N env b a L->aI G b c a->Step J s.heap b a->Rel G b a v u->PS G N env (f u L c) b {s with heap:=a,toks:=tk} Q->d v {s with heap:=a,toks:=tk}):
  wpAny G.mo A (eval e env) d E s:=by exact bl (PS.lift h) λu c i j=>g s J U L d E X S (i▸λv a tk b st l r=>k v a tk b c u (X.step S st) l st r (j.step st.toS))
def ip.gI{x:Qh.E}{e:au}(i:ip G n A N env x e){f:Bool->Qh.N Fl}{g:Bool->Shared->Prop}(X:bC G N env J s.heap L)(S:aI G J U s.heap)(h:PS G N env (Qh.N.bind (Qh.N.lift (bQ (G.ctx n) x)) f L U) J s Q)(k:∀b a tk c d,bC G N env c a L->aI G c d a->Step J s.heap c a->PS G N env (f b L d) c {s with heap:=a,toks:=tk} Q->g b {s with heap:=a,toks:=tk}):
  wpAny G.mo A (isTrue e env (eval e env)) g E s:=by refine bl (PS.lift h) λu d j l=>i s J U L g E X S (j▸?_);rintro v a tk c st m rfl;exact k v a tk c d (X.step S st) m st (l.step st.toS)
def bC.FL(X:bC G N env J h L){c:Addr}{d:Option Value}(e:h.IsCell c d):env.locals≠c:=by rintro rfl;refine bB λk f=>?_;obtain⟨m,⟨o,l,p,g,i,_⟩,_⟩:=X.ns;obtain⟨q,a,b⟩:=e;refine f ?_;(replace a:=g▸a);(refine d7 a λj=>?_;(clear a;subst j));(replace b:=i▸b);cases b
def CQ{c:Addr}{i:Option Value}(j:h.IsCell c i):∀a g,IsTup h a g->a≠c:=by rintro a g ⟨o,e,l,n,d⟩ rfl;obtain⟨m,b,f⟩:=j;(replace b:=e▸b);(refine d7 b λk=>?_;(clear b;subst k));(replace f:=d▸f);cases f
def tj{i:Nat}{x:Str}{v:Value}{u:V}{K:Unit->Shared->Prop}(X:bC G N env J s.heap L)(S:aI G J U s.heap)(R:N[i]?=some x)(hk:env.kindOf x=some .local∨env.kindOf x=some .cell)(r:Rel G J s.heap v u)(h:∀h' tk,d5 env J s.heap J h'->aI G J U h'->bC G N env J h' (cq L i u)->Rel G J h' v u->(∀b o,b≠env.locals->(∀y,env.kindOf y=some .cell->env.cells.lookup y≠some b)->s.heap.get? b=some o->h'.get? b=some o)->K Unit.unit {s with heap:=h',toks:=tk}):
  wpAny G.mo A (storeName env x v) K E s:=by
 have g:∀j,N[j]?=some x->j=i:=λj hj=>by
  have p:=(List.getElem?_eq_some_iff.mp hj).1;exact(List.getElem?_inj p X.nodup).mp (hj.trans R.symm)
 refine aQ (X.ns) λm hns hm=>?_;rcases hk with hk|hk
 ·refine wpAny_storeName_local hk hns (λh' hn' k=>?_) (Hk X.kind);have C:∀b o,b≠env.locals->s.heap.get? b=some o->h'.get? b=some o:=λb o hb e=>(k.2 b hb).trans e;have nt:=pF hns;have T:∀a Y,IsTup s.heap a Y->IsTup h' a Y:=λa Y t=>by
   have:=nt a Y t;obtain⟨o,e,c⟩:=t;exact#[o,C a o this e,c]
  refine h h' _ #[#[[],by simp],λ_ q=>.inl q,λa o e _ p _=>C a o p e,λa _ e q=>?_] (S.iY X.kC X.newL nt C) #[X.kind,X.glob,X.blt,#[_,hn',λj w y B f e3=>?_],λy Z=>?_,λj w B=>?_,X.apart,X.nodup,X.kC,X.kD,X.newL,X.jl] (r.mono T λ_ _ e=>e) (λb o p _ e=>C b o p e)
  ·by_cases ha:a=env.locals
   ·clear e;subst ha;refine g9 (hn') λo _ _ ho _=>?_;(replace q:=ho▸q);exact ez q
   ·exact e ((k.2 a ha).symm.trans q)
  ·rcases l0 B with ⟨rfl,rfl⟩|⟨p,l⟩
   ·(replace f:=R▸f);(apply fg f);exact#[v,by simp,r.mono T λ_ _ e=>e]
   ·refine aQ (hm j w y l f e3) λz hz rz=>?_;have F:y≠x:=λq=>p (g j (q▸f));exact#[z,by simp[F,hz],rz.mono T λ_ _ e=>e]
  ·refine dk (X.cl y Z) λc ov D d hv=>?_;have F:=X.FL d;refine#[c,ov,D,let #[o,ho,hd]:=d;#[o,C c o (Ne.symm F) ho,hd],λj w B f=>?_];rcases l0 B with ⟨rfl,rfl⟩|⟨p,l⟩
   ·(replace f:=R▸f);(refine d7 f λaO=>?_;(clear f hv;subst aO));(replace Z:=hk▸Z);cases Z
   ·exact aQ (hv j w l f) λz hz rz=>#[z,hz,rz.mono T λ_ _ e=>e]
  ·rcases l0 B with ⟨rfl,rfl⟩|⟨p,l⟩
   ·exact#[x,R,.inl hk]
   ·exact X.has j w l
 ·refine dk (X.cl x hk) λc ov D d hv=>wpAny_storeName_cell X.kind hk D d λh' hc' k=>?_;have C:∀b o,b≠c->s.heap.get? b=some o->h'.get? b=some o:=λb o hb e=>(k.2 b hb).trans e;have nt:=CQ d;have T:∀a Y,IsTup s.heap a Y->IsTup h' a Y:=λa Y t=>by
   have:=nt a Y t;obtain⟨o,e,c⟩:=t;exact#[o,C a o this e,c]
  have Jr:=X.FL d;refine h h' _ #[#[[],by simp],λ_ q=>.inl q,λa o e _ _ l=>C a o (λq=>l x hk (q▸D)) e,λa _ e q=>?_] (S.iY (X.kD x c hk D) (X.jl x c hk D) nt C) #[X.kind,X.glob,X.blt,#[m,hns.sameBut k Jr,λj w y B f e3=>?_],λy Z=>?_,λj w B=>?_,X.apart,X.nodup,X.kC,X.kD,X.newL,X.jl] (r.mono T λ_ _ e=>e) (λb o _ l e=>C b o (λq=>l x hk (q▸D)) e)
  ·by_cases ha:a=c
   ·clear e Jr nt C k d D;subst ha;refine aQ (hc') λo ho _=>?_;(replace q:=ho▸q);exact ez q
   ·exact e ((k.2 a ha).symm.trans q)
  ·rcases l0 B with ⟨rfl,rfl⟩|⟨p,l⟩
   ·(replace f:=R▸f);(refine d7 f λaO=>?_;(clear g R hv D;subst aO));(replace e3:=hk▸e3);cases e3
   ·exact aQ (hm j w y l f e3) λz hz rz=>#[z,hz,rz.mono T λ_ _ e=>e]
  ·by_cases BN:y=x
   ·clear Z hv hk R;subst BN;refine#[c,some v,D,hc',λj w B f=>?_];have:=g j f;clear f g h;subst this;rcases l0 B with ⟨_,rfl⟩|⟨p,_⟩
    ·exact#[v,rfl,r.mono T λ_ _ e=>e]
    ·exact absurd rfl p
   ·refine dk (X.cl y Z) λI Tn Hs ND To=>?_;have F:I≠c:=λq=>BN (X.apart y x c Z hk (q▸Hs) D);refine#[I,Tn,Hs,let #[o,ho,hd]:=ND;#[o,C I o F ho,hd],λj w B f=>?_];rcases l0 B with ⟨rfl,rfl⟩|⟨p,l⟩
    ·(replace f:=R▸f);(refine d7 f λaO=>?_;(clear g R hv D hk;subst aO));exact absurd rfl BN
    ·exact aQ (To j w l f) λz hz rz=>#[z,hz,rz.mono T λ_ _ e=>e]
  ·rcases l0 B with ⟨rfl,rfl⟩|⟨p,l⟩
   ·exact#[x,R,.inr hk]
   ·exact X.has j w l
def d5.get(x:d5 env J h aA h'){i:Nat}{a:Addr}(e:J[i]?=some a):aA[i]?=some a:=by
 refine cb (x.pre) λt b=>?_;clear x get;subst b;rw[List.getElem?_append_left]
 ·exact e
 ·exact(List.getElem?_eq_some_iff.mp e).1
def d5.ay(x:d5 env J h aA h')(S:aI G J U h)(X:bC G N env J h L):∀a xs,IsTup h a xs->IsTup h' a xs:=λa xs e=>by
 have f:=S.ay e;refine bB λp g=>aQ (X.ns) λm d _=>?_;have i:=pF d a xs e;have j:∀y,env.kindOf y=some .cell->env.cells.lookup y≠some a:=λy k q=>by
  refine dk (X.cl y k) λc r l b _=>?_;(replace q:=l▸q);cases q;exact CQ b a xs e rfl
 exact aQ (e) λo e c=>g (#[o,x.keep a o e f i j,c])
def Rel.jN{v:Value}{u:V}(r:Rel G J h v u)(x:d5 env J h aA h')(S:aI G J U h)(X:bC G N env J h L):Rel G aA h' v u:=r.mono (x.ay S X) λ_ _ e=>x.get e
def bL.jN{v:List Value}{u:List V}(r:bL G J h v u)(x:d5 env J h aA h')(S:aI G J U h)(X:bC G N env J h L):bL G aA h' v u:=r.mono (x.ay S X) λ_ _ e=>x.get e
def et.jN{I:Addr}{sr:Src}{k:Nat}(x:et G J h I sr k)(S:aI G J U h)(X:bC G N env J h L)(st:d5 env J h aA h'):et G aA h' I sr k:=by
 have d:=x.own;refine aQ (X.ns) λm f _=>?_;have j:I≠env.locals:=by
  rintro rfl;refine gi (f) λo u v g i _=>?_;obtain⟨l,T,e,_,_,_,_,fs,a⟩:=d;(replace e:=g▸e);(refine d7 e λb=>?_;(clear e;subst b));(replace a:=i▸a);cases a
 have p:∀y,env.kindOf y=some .cell->env.cells.lookup y≠some I:=λy r q=>by
  obtain⟨c,w,t,⟨o,g,i⟩,_⟩:=X.cl y r;(replace q:=t▸q);(refine d7 q λb=>?_;(clear x;subst b));obtain⟨l,T,e,_,_,_,_,fs,a⟩:=d;(replace e:=g▸e);(refine d7 e λb=>?_;(clear e;subst b));(replace a:=i▸a);cases a
 exact x.mono (λo e=>st.keep _ _ e (d.kr S) j p) (st.ay S X) λ_ _ e=>st.get e
def wZ{i:Nat}{x:Qh.E}{e:au}{y:Str}{p p':Pos}(a:a9 G n A N env x e)(b:N[i]?=some y)(hk:env.kindOf y=some .local∨env.kindOf y=some .cell)(c:swapsWith e (some (.Name y p')) p.line env=pure false):
  dU G n A N env (.aK i x) (.Assign [.Name y p'] e p):=λs J U L Q E X S h=>
 wpAny_Assign_Name (a.gI X S h λv t w d z u f g st r j=>tj f g b hk r λk l m o q B _=>j .next k l d m o q .next) c
def Gy{x:Qh.E}{e:au}{p:Pos}(a:a9 G n A N env x e):dU G n A N env (.ret x) (.Return (some e) p):=λs J U L Q E X S h=>
 wpAny_Return_some (a.gI X S h λv f g i j u b c st r d=>d.cG c b (.ret r))
def Rv{c:Qh.E}{t e:SL}{c':au}{t' e':List Stmt}{p:Pos}(i:ip G n A N env c c')(j:iN G n A N env t t')(k:iN G n A N env e e'):dU G n A N env (.ite c t e) (.If c' t' e' p):=λs J U L Q E X S h=>
 wpAny_If (i.gI X S h λb l m a d f g st hb=>by
  cases b with
  |true=>exact j _ a d L Q E f g hb
  |false=>exact k _ a d L Q E f g hb)
def zL:iN G n A N env .nil []:=λs J U L Q E X S h=>wpAny_execs_nil (PS.cG h S X .next)
def EM{x:Qh.S}{r:SL}{st:Stmt}{rest:List Stmt}(g:dU G n A N env x st)(i:iN G n A N env r rest):iN G n A N env (.cons x r) (st::rest):=λs J U L Q E X S h=>by
 refine g9 (PS.bind h) λf j k l b=>wpAny_execs_cons (g s J U L _ E X S ?_);refine l▸?_;intro fl h' e aA a c d m;cases m with
|next=>exact i _ aA k j Q E d c (b.step a)
|brk=>exact b _ h' e aA a c d .brk
|cont=>exact b _ h' e aA a c d .cont
|ret r=>exact b _ h' e aA a c d (.ret r)
def Pf{x:Qh.E}{e:au}{p:Pos}(a:a9 G n A N env x e)(b:interactive env=false)(c:swapsWith e none p.line env=pure false):dU G n A N env (.expr x) (.Expr e p):=λs J U L Q E X S h=>
 wpAny_Expr_any (a.gI X S h λv i j k l u d f st r g=>g.cG f d .next) b c
end
end Qh
set_option tactic.hygienic false
namespace Qh
open PySem PySem.W PyProof.Rows
abbrev o6(G:Gd)(N:List Str)(env:Env)(outer:List Env)(J:List Addr)(s:Shared)(L':aP)(d:H)(E:bN):Prop:=
 ∀e a c tk b,d5 env J s.heap b a->aI G b d a->bC G N env b a L'->o0 (G.cA 1) (env::outer) a c e->E (.ref e) {s with heap:=c,toks:=tk}
section
variable(G:Gd)(n:Nat)(A:Around)(N:List Str)(env:Env)
abbrev gQ(x:S)(st:Stmt):Prop:=∀(s:Shared)(J:List Addr)(U:H)(L L':aP)(a:H)(outer:List Env)(Q:Flow->Shared->Prop)(E:bN),bC G N env J s.heap L->aI G J U s.heap->Fs A env outer env.locals env J s.heap->Sep outer env->
 cT (G.ctx n) x L U=.aF G.tg L' a->o6 G N env outer J s L' a E->wpAny G.mo A (exec st env) Q E s
abbrev oL(x:SL)(b:List Stmt):Prop:=∀(s:Shared)(J:List Addr)(U:H)(L L':aP)(a:H)(outer:List Env)(Q:Flow->Shared->Prop)(E:bN),bC G N env J s.heap L->aI G J U s.heap->Fs A env outer env.locals env J s.heap->Sep outer env->
 a8 (G.ctx n) x L U=.aF G.tg L' a->o6 G N env outer J s L' a E->wpAny G.mo A (execs b env) Q E s
end
section
variable{G:Gd}{n:Nat}{A:Around}{N:List Str}{env:Env}{s:Shared}{J aA:List Addr}{U ah:H}{h h':Heap}{L L':aP}{outer:List Env}{E:bN}{Q:Flow->Shared->Prop}
def o6.step{b:Heap}{tk:Nat}{c:List Addr}(p:o6 G N env outer J s L' ah E)(st:d5 env J s.heap c b):o6 G N env outer c {s with heap:=b,toks:=tk} L' ah E:=
 λe d h' f aA a S X x=>p e d h' f aA (st.trans a) S X x
def o6.px(p:o6 G N env outer J s L ah E)(X:bC G N env J s.heap L)(S:aI G J U s.heap):PX G env outer env.locals J s ah E:=
 λe a h' b aA st c x=>p e a h' b aA st.toS c (X.step S st) x
def vC{α g:Type}{m:Qh.N α}{f:α->Qh.N g}{c:Nat}(e:Qh.N.bind m f L U=.aF c L' ah):m L U=.aF c L' ah∨∃a b d,m L U=.ok a b d/\f a b d=.aF c L' ah:=by
 unfold Qh.N.bind at e;cases q:m L U with
|ok a b d=>(replace e:=q▸e);exact .inr #[a,b,d,rfl,e]
|aF c' b d=>(replace e:=q▸e);(apply Jj e);exact .inl rfl
|bad=>(replace e:=q▸e);exact uP e
def NF{α:Type}{m:aP->M α}{c:Nat}(e:Qh.N.lift m L U=.aF c L' ah):L'=L/\m L U=.aF c ah:=by
 unfold Qh.N.lift at e;cases q:m L U with
|ok a b=>(replace e:=q▸e);exact js e
|aF c' b=>(replace e:=q▸e);(apply Jj e);exact#[rfl,rfl]
|bad=>(replace e:=q▸e);exact uP e
def q7{α d:Type}{m:aP->M α}{f:α->Qh.N d}{c:Nat}(e:Qh.N.bind (Qh.N.lift m) f L U=.aF c L' ah):(L'=L/\m L U=.aF c ah)∨∃a b,m L U=.ok a b/\f a L b=.aF c L' ah:=by
 rcases vC e with q|⟨a,j,b,q,g⟩
 ·exact .inl (NF q)
 ·refine aX (FK q) λi q=>?_;clear e q7;subst i;exact .inr #[a,b,q,g]
def AH{x:Qh.E}{e:au}{c:bN}(d:eP G n A N env x e)(X:bC G N env J s.heap L)(S:aI G J U s.heap)(F:Fs A env outer env.locals env J s.heap)(p:o6 G N env outer J s L' ah E){f:V->Qh.N Fl}(g:Qh.N.bind (Qh.N.lift (aj (G.ctx n) x)) f L U=.aF G.tg L' ah)(i:∀a b,f a L b≠.aF G.tg L' ah):wpAny G.mo A (eval e env) c E s:=by
 rcases q7 g with ⟨rfl,q⟩|⟨a,b,_,q⟩
 ·exact d s J U L' ah env outer env.locals c E X S F q (p.px X S)
 ·exact absurd q (i a b)
def Ph{i:Nat}{x:Qh.E}{e:au}{y:Str}{p p':Pos}(a:eP G n A N env x e)(b:swapsWith e (some (.Name y p')) p.line env=pure false):
  gQ G n A N env (.aK i x) (.Assign [.Name y p'] e p):=λs J U L L' ah outer Q E X S F sep c px=>wpAny_Assign_Name (AH a X S F px c λ_ _ q=>~~~js q) b
def Pj{x:Qh.E}{e:au}{p:Pos}(a:eP G n A N env x e):gQ G n A N env (.ret x) (.Return (some e) p):=λs J U L L' ah outer Q E X S F sep b px=>
 wpAny_Return_some (AH a X S F px b λ_ _ q=>~~~js q)
def NG{x:Qh.E}{e:au}{p:Pos}(a:eP G n A N env x e)(b:interactive env=false)(c:swapsWith e none p.line env=pure false):gQ G n A N env (.expr x) (.Expr e p):=λs J U L L' ah outer Q E X S F sep d px=>
 wpAny_Expr_any (AH a X S F px d λ_ _ q=>~~~js q) b c
def Pk{c:Qh.E}{t e:SL}{c':au}{t' e':List Stmt}{p:Pos}(i:ip G n A N env c c')(j:xH G n A N env c c')(k:oL G n A N env t t')(l:oL G n A N env e e'):gQ G n A N env (.ite c t e) (.If c' t' e' p):=λs J U L L' ah outer Q E X S F sep m px=>by
 refine wpAny_If ?_;rcases q7 m with ⟨rfl,q⟩|⟨b,a,d,q⟩
 ·exact j s J U L' ah env outer env.locals _ E X S F q (px.px X S)
 ·refine i s J U L _ E X S (d▸?_);rintro v o r f st g rfl;clear d;cases v with
  |true=>exact k _ f a L L' ah outer Q E (X.step S st) g (F.step st) sep q (px.step st.toS)
  |false=>exact l _ f a L L' ah outer Q E (X.step S st) g (F.step st) sep q (px.step st.toS)
def Mo{x:Qh.S}{r:SL}{st:Stmt}{rest:List Stmt}(c:dU G n A N env x st)(d:gQ G n A N env x st)(e:oL G n A N env r rest):oL G n A N env (.cons x r) (st::rest):=λs J U L L' ah outer Q E X S F sep g px=>by
 refine wpAny_execs_cons ?_;rcases vC g with q|⟨f,i,j,k,q⟩
 ·exact d s J U L L' ah outer _ E X S F sep q px
 ·refine c s J U L _ E X S (k▸?_);intro fl h' o aA a l b m;cases m with
  |next=>exact e _ aA j i L' ah outer Q E b l (F.jN sep a b) sep q (px.step a)
  |brk=>exact js q
  |cont=>exact js q
  |ret r=>exact js q
end
end Qh
set_option tactic.hygienic true
namespace Qh
open PySem PySem.W PyProof.Rows
section
variable{G:Gd}{n:Nat}{A:Around}{N:List Str}{env:Env}{s:Shared}{J aA:List Addr}{U ah:H}{h h':Heap}{L:aP}{E:bN}{Q:Flow->Shared->Prop}
def NH{α β:Type}{m:Qh.N α}{f:α->Qh.N β}{b:β}{sh:aP}{bP:H}(e:Qh.N.bind m f L U=.ok b sh bP):∃a eL aw,m L U=.ok a eL aw/\f a eL aw=.ok b sh bP:=by
 unfold Qh.N.bind at e
 split at e
 ·rename_i a L' ah e';exact#[a,L',ah,e',e]
 ·exact Ji e
 ·exact qG e
def PS.ok{r:RN Fl}(h:PS G N env r J s Q):∃f L' ah,r=.ok f L' ah:=by
 cases r with
|ok f L' ah=>exact#[f,L',ah,rfl]
|aF c L' ah=>exact h.elim
|bad=>exact h.elim
def d5.other{dX:List Addr}{d:Heap}(st:d5 env dX d J h){I:Addr}(g:d.get? I=none)(hk:∀b o,b≠I->h.get? b=some o->h'.get? b=some o):d5 env dX d J h':=
 #[st.pre,st.fresh,λa o e c i j=>hk a o (λq=>by(clear j i c hk;subst q);(replace e:=g▸e);exact bR e) (st.keep a o e c i j),λa c e q=>by
  cases e':h.get? a with
  |none=>exact st.mD a c e e'
  |some o=>
   have f:a≠I:=λq=>by(clear c;subst q);exact e g
   (replace q:=(hk a o f e')▸q);exact ez q]
abbrev Vj(b:aP->H->Prop)(a:Fl->aP->H->Prop)(L:aP)(U:H):Fl->Prop
|.next=>b L U
|.cont=>b L U
|.brk=>a .next L U
|.ret v=>a (.ret v) L U
abbrev xr(t:Nat)(C:Ctx)(i:Nat)(b:SL)(c:aP->H->Prop)(a:Fl->aP->H->Prop)(d:aP->H->Prop)(L:aP)(U:H):Option V->Prop
|none=>a .next L U
|some v=>(∃f L' ah,a8 C b (cq L i v) U=.ok f L' ah/\Vj c a L' ah f)∨∃L' ah,a8 C b (cq L i v) U=.aF t L' ah/\d L' ah
@[reducible]def mJ(C:Ctx)(i:Nat)(b:SL)(sr:Src):Nat->Nat->Qh.N Fl:=eK (λk=>M.bind (ea sr k) λy=>M.pure (y.map λv=>[(i,v)])) (a8 C b)
def DM{C:Ctx}{i:Nat}{b:SL}{sr:Src}{m k:Nat}{r:Option V}(e:ea sr k U=.ok r U):mJ C i b sr (m+1) k L U=match r with
  |none=>.ok .next L U
  |some v=>Qh.N.bind (a8 C b) (λf=>match f with|.next=>mJ C i b sr m (k+1)|.cont=>mJ C i b sr m (k+1)|.brk=>Qh.N.pure .next|.ret v=>Qh.N.pure (.ret v)) (cq L i v) U:=by
 have a:M.bind (ea sr k) (λy=>M.pure (y.map λv=>[(i,v)])) U=.ok (r.map λv=>[(i,v)]) U:=by unfold M.bind;(refine e▸?_);rfl
 unfold mJ;simp only[eK,Qh.N.bind,Qh.N.lift,a];cases r<;>rfl
def EN{sr:Src}{k m:Nat}{C:Ctx}{i:Nat}{b:SL}(h:∀c L' ah,mJ C i b sr (m+1) k L U≠.aF c L' ah∨True)(hb:mJ C i b sr (m+1) k L U≠.bad):∃r,ea sr k U=.ok r U:=by
 clear h;cases sr with
|fix vs=>exact#[vs[k]?,rfl]
|live j=>
  cases q:bO (.ref j) U with
  |ok vs a=>
   refine ct (eT q) λ_ _ d _=>?_;subst d;exact#[vs[k]?,by show M.bind (bO _) _ a=_;unfold M.bind;(refine q▸?_);rfl]
  |aF c a=>exact no .bO q
  |bad=>
   refine absurd ?_ hb;have:M.bind (ea (.live j) k) (λy=>M.pure (y.map λv=>[(i,v)])) U=.bad:=by
    show M.bind (M.bind (bO (.ref j)) _) _ U=_;unfold M.bind;(refine q▸?_;with_reducible rfl)
   unfold mJ;simp only[eK,Qh.N.bind,Qh.N.lift,this]
abbrev sz(C:Ctx)(i:Nat)(b:SL)(sr:Src)(a:Fl)(c:aP)(d:H)(m k:Nat)(L:aP)(U:H):Prop:=mJ C i b sr m k L U=.ok a c d
def sz.next{t:Nat}{C:Ctx}{i:Nat}{b:SL}{sr:Src}{m k:Nat}{d:Fl}{g:aP}{j:H}(a:sz C i b sr d g j m k L U):
  ∃m' r,m=m'+1/\ea sr k U=.ok r U/\xr t C i b (sz C i b sr d g j m' (k+1)) (λf L U=>f=d/\L=g/\U=j) (λ_ _=>False) L U r:=by
 unfold sz at a;cases m with
|zero=>exact qG a
|succ m=>
  obtain⟨r,e⟩:=EN (λ_ _ _=>.inr trivial) (by rw[a];intro q;cases q);refine#[m,r,rfl,e,?_];replace a:=(DM e)▸a;cases r with
  |none=>(apply xY a);exact#[rfl,rfl,rfl]
  |some v=>
   refine g9 (NH a) λf o p l c=>.inl #[f,o,p,l,?_];clear l;cases f with
   |next=>exact c
   |cont=>exact c
   |brk=>(apply xY c);exact#[rfl,rfl,rfl]
   |ret v=>(apply xY c);exact#[rfl,rfl,rfl]
abbrev uz(t:Nat)(C:Ctx)(i:Nat)(b:SL)(sr:Src)(a:aP)(c:H)(m k:Nat)(L:aP)(U:H):Prop:=mJ C i b sr m k L U=.aF t a c
def uz.next{t:Nat}{C:Ctx}{i:Nat}{b:SL}{sr:Src}{m k:Nat}{c:aP}{d:H}(a:uz t C i b sr c d m k L U):
  ∃m' r,m=m'+1/\ea sr k U=.ok r U/\xr t C i b (uz t C i b sr c d m' (k+1)) (λ_ _ _=>False) (λL U=>L=c/\U=d) L U r:=by
 unfold uz at a;cases m with
|zero=>exact uP a
|succ m=>
  obtain⟨r,e⟩:=EN (λ_ _ _=>.inr trivial) (by rw[a];intro q;cases q);refine#[m,r,rfl,e,?_];replace a:=(DM e)▸a;cases r with
  |none=>exact js a
  |some v=>
   rcases vC a with q|⟨f,l,o,j,g⟩
   ·exact .inr #[c,d,q,rfl,rfl]
   ·refine .inl #[f,l,o,j,?_];clear j;cases f with
    |next=>exact g
    |cont=>exact g
    |brk=>exact js g
    |ret v=>exact js g
abbrev uA(G:Gd)(N:List Str)(env:Env)(I:Addr)(sr:Src)(T:Nat->Nat->aP->H->Prop)(dq:Shared)(dX:List Addr)(m:Nat)(s:Shared):Prop:=
 ∃h' tk aA ah k L',s={dq with heap:=h',toks:=tk}/\d5 env dX dq.heap aA h'/\aI G aA ah h'/\bC G N env aA h' L'/\et G aA h' I sr k/\T m k L' ah
def uA.elim{I:Addr}{sr:Src}{dq s:Shared}{dX:List Addr}{T:Nat->Nat->aP->H->Prop}{FN:Nat->Nat->aP->H->Option V->Prop}{m:Nat}{X:Nat->Shared->Prop}(h:uA G N env I sr T dq dX m s)(a:∀m k L U,T m k L U->∃m' r,m=m'+1/\ea sr k U=.ok r U/\FN m' k L U r)(j:∀h' tk aA ah k L' m r,d5 env dX dq.heap aA h'->aI G aA ah h'->bC G N env aA h' L'->et G aA h' I sr k->ea sr k ah=.ok r ah->FN m k L' ah r->X (m+1) {dq with heap:=h',toks:=tk}):X m s:=by refine bB λg b=>?_;obtain⟨h',tk,aA,ah,k,L',rfl,st,S,X,c,d⟩:=h;obtain⟨m,r,rfl,e,f⟩:=a _ _ _ _ d;exact b (j _ _ _ _ _ _ _ _ st S X c e f)
def zf{i:Nat}{y:Str}{py:Pos}{b:SL}{body:List Stmt}{I:Addr}{sr:Src}{dq:Shared}{dX:List Addr}{R:Result->Shared->Prop}{T:Nat->Nat->aP->H->Prop}{g:Fl->aP->H->Prop}{jv:aP->H->Prop}{outer:List Env}(hh:A.handled=none)(hb:iN G n A N env b body)(ft:G.hb.get? I=none)(hI:dq.heap.get? I=none)(hx:N[i]?=some y)(hk:env.kindOf y=some .local∨env.kindOf y=some .cell)(hT:∀m k L U,T m k L U->∃m' r,m=m'+1/\ea sr k U=.ok r U/\xr G.tg (G.ctx n) i b (T m' (k+1)) g jv L U r)(C:∀L' ah,jv L' ah->Fs A env outer env.locals env dX dq.heap/\Sep outer env/\oL G n A N env b body/\∀e c h' tk aA base,d5 env dX dq.heap aA c->aI G aA ah c->bC G N env aA c L'->iZ (env::outer) c base->gO base (env::outer) e (G.cA 1) (rawInt env.locals) h'->c.UpToSlots h'->R (.error (.ref e)) {dq with heap:=h',toks:=tk})(hR:∀fl h' tk aA fE LE dA,g fE LE dA->d5 env dX dq.heap aA h'->aI G aA dA h'->bC G N env aA h' LE->jn G aA h' fl fE->R (.ok fl) {dq with heap:=h',toks:=tk}):
  ∀(m:Nat)(s:Shared),uA G N env I sr T dq dX m s->codeAny G.mo A (.forLoop (.Name y py) (.ref I) body [] env) R s:=by
 intro m s d
 let W3:Nat->Shared->Prop:=λm s=>uA G N env I sr T dq dX m s
 refine codeAny_forLoop W3 ?_ m d;clear d m s;intro m s hJ;apply uA.elim (FN:=λm' k L U r=>xr G.tg (G.ctx n) i b (T m' (k+1)) g jv L U r) hJ hT;clear hJ m s hT;intro h' tk aA ah k L' m r' st S X it e4 hr;refine And.right (tL (s:={dq with heap:=h',toks:=tk}) (A:=A) hh S it e4 λxv c fT gH hv=>?_);refine bB λXx j=>?_;have ow:=it.own;have aG:aI G aA ah c:=S.iY (ow.kr S) ft ow.oB gH;have oK:d5 env dX dq.heap aA c:=st.other hI gH;have bu:bC G N env aA c L':=X.other S ow gH;clear e4;cases r' with
|none=>
  obtain rfl:xv=none:=hv;exact j (wpAny_execs_nil (hR .next c fT aA _ _ _ hr oK aG bu .next))
|some AB=>
  refine ct (hv) λw bh BJ l=>?_;clear hv;subst bh;refine j (wpAny_assign_Name (tj bu aG hx hk BJ λbt cJ cK F D _ _=>?_));clear j Xx;refine bB λXx j=>?_;have A4:=oK.trans cK;rcases hr with ⟨f,qz,iJ,K,p⟩|⟨qz,iJ,K,p⟩
  ·have a:=l.jN aG bu cK;refine j (hb.at (s:={dq with heap:=bt,toks:=cJ}) D F K λfl q Y t v z o rf=>?_);clear j Xx K;have Z:=A4.trans v;cases rf with
   |next=>exact#[m,Nat.lt_succ_self _,q,Y,t,_,k+1,_,rfl,Z,z,o,a.jN F D v,p]
   |cont=>exact#[m,Nat.lt_succ_self _,q,Y,t,_,k+1,_,rfl,Z,z,o,a.jN F D v,p]
   |brk=>exact hR .next q Y t _ _ _ p Z z o .next
   |ret r=>exact hR _ q Y t _ _ _ p Z z o (.ret r)
  ·refine jL (C qz iJ p) λA3 sep hX BK=>?_;have lu:=A3.jN sep A4 D;refine j (hX {dq with heap:=bt,toks:=cJ} aA ah _ qz iJ outer _ _ D F lu sep K λe q ey jc t v z o x=>?_);exact vN (s:={dq with heap:=ey,toks:=jc}) (lu.jN sep v o) x λsg base B hd u=>BK e q sg jc t base (A4.trans v) z o B hd u
def aI.outside(S:aI G J U h){a:Addr}(b:h.objs.size<=a):G.hb.get? a=none:=by
 cases e:G.hb.get? a with
|none=>rfl
|some o=>exact absurd (Heap.lt_size (S.base _ _ e)) (Nat.not_lt.mpr b)
def yy{sr:Src}{k:Nat}{b:H}(a:fh sr U=.ok k b):b=U:=by
 cases sr with
|fix d=>(apply fO a);rfl
|live i=>
  refine bl (eJ a) λd ah c e=>ct (eT c) λ_ _ f _=>?_;clear c;(clear a yy;subst f);(apply fO e);rfl
def Pl{i:Nat}{src:Qh.E}{b:SL}{iter:au}{body:List Stmt}{y:Str}{z p:Pos}(Y:Ao A n)(B:a9 G n A N env src iter)(hb:iN G n A N env b body)(j:kt iter=true)(C:N[i]?=some y)(hk:env.kindOf y=some .local∨env.kindOf y=some .cell):
  dU G n A N env (.iL i src b) (.For (.Name y z) iter body [] p):=λs J U L Q E X S h=>by
 refine wpAny_For (B.gI X S h λxv l e t aw u D a st r v=>?_) (nP j);refine bl (PS.lift v) λF bP m K=>(kU (s:={s with heap:=l,toks:=e}) a r m λI P w d R=>?_).2;refine bB λXx Z=>aX (kU (s:={s with heap:=l,toks:=e}) (A:=A) (E:=λ_ _=>True) (Q:=λ_ _=>True) a r m (λ_ _ _ _ _=>trivial)) λcM _=>?_;clear m v;subst cM;refine bl (PS.lift K) λk eE e3 f=>?_;obtain rfl:=yy e3;refine ll (PS.ok f) λfE LE dA x=>Z ?_;replace f:=x▸f;have g:=Step.grow a d;refine zf (outer:=[]) (dq:={s with heap:=l,toks:=e}) (dX:=t) (T:=sz (G.ctx n) i b F fE LE dA) Y.hh hb (a.outside w) (Heap.get?_none_of_le w) C hk (λ_ _ _ _ c=>c.next) (λ_ _ q=>q.elim) (λfl h' fP aA f' L' ah q o S' X' rf=>by obtain⟨rfl,rfl,rfl⟩:=q;exact f fl h' fP aA o S' X' rf) (k+1) _ #[P,e,t,_,0,L,rfl,g.toS,a.grow d,D.step a g,R,x]
abbrev rX(k:Int):M (Int×H):=λU=>.ok (k,U) U
def Pn{i:Nat}{src:Qh.E}{b:SL}{e:au}{body:List Stmt}{y:Str}{C p D d:Pos}(K:cP G)(Y:Ao A n)(F:a9 G n A N env src e)(hb:iN G n A N env b body)(P:N[i]?=some y)(hk:env.kindOf y=some .local∨env.kindOf y=some .cell)(Z:env.kindOf "range"=some .globalImplicit)(hs:starEach [e] env=[(false,eval e env)]):
  dU G n A N env (.eV i src b) (.For (.Name y C) (.Call (.Name "range" D) [e] [] d) body [] p):=λs J U L Q E X S h=>by
 refine bB λXx aH=>bl (PS.lift h) λu aw e1 o=>bl (PS.lift o) λk r t a=>aX (j5 t) λcM bh=>?_;clear t;(clear o;subst cM);subst bh;refine aH ?_;have f:0<=k/\k<=1000000:=by
  by_cases v:0<=k/\k<=1000000
  ·exact v
  ·(replace a:=(if_neg v)▸a);exact a.elim
 replace a:=(if_pos f)▸a;refine ll (PS.ok a) λfE LE dA w=>?_;replace a:=w▸a;refine wpAny_For (vo (g:=rX) (R:=qH) (Q:=λb _=>b=(k,r)) K F Z hs X S ?_ λI aC bt x cJ z eE k' bu j st _ h3 B l it=>?_) (nP rfl)
 ·unfold M.bind;refine e1▸?_;show aR G qH ((if 0<=k/\k<=1000000 then rX k else M.fail) r) J s _;refine(if_pos f)▸?_;rintro b h' x aA _ _ rfl
  rfl
 ·have e3:=h3.cG j (b:=(k',eE)) rfl;cases e3;have g:=Step.grow j l;exact zf (outer:=[]) (dq:={s with heap:=aC,toks:=x}) (dX:=z) (T:=sz (G.ctx n) i b (.fix (d9 k)) fE LE dA) Y.hh hb (j.outside B) (Heap.get?_none_of_le B) P hk (λ_ _ _ _ c=>c.next) (λ_ _ q=>q.elim) (λfl h' fP aA f' L' ah q m S' X' rf=>by obtain⟨rfl,rfl,rfl⟩:=q;exact a fl h' fP aA (st.toS.trans m) S' X' rf) (k.toNat+1) _ #[bt,cJ,z,_,0,L,rfl,g.toS,j.grow l,bu.step j g,it,w]
end
end Qh
set_option tactic.hygienic false
namespace Qh
open PySem PySem.W PyProof.Rows
section
variable{G:Gd}{n:Nat}{A:Around}{N:List Str}{env:Env}
def NI{i:Nat}{src:Qh.E}{b:SL}{e:au}{body:List Stmt}{y:Str}{z p C d:Pos}(K:cP G)(Y:Ao A n)(D:a9 G n A N env src e)(l:∀L,bH G.tg (aj (G.ctx n) src L))(hb:iN G n A N env b body)(P:oL G n A N env b body)(Z:N[i]?=some y)(hk:env.kindOf y=some .local∨env.kindOf y=some .cell)(uQ:env.kindOf "range"=some .globalImplicit)(hs:starEach [e] env=[(false,eval e env)]):
  gQ G n A N env (.eV i src b) (.For (.Name y z) (.Call (.Name "range" C) [e] [] d) body [] p):=λs J U L L' ah outer Q E X S F sep ev px=>by
 rcases q7 ev with ⟨_,q⟩|⟨u,aw,e1,m⟩
 ·exact no (l L) q
 rcases q7 m with ⟨_,q⟩|⟨k,o,r,a⟩
 ·exact no .dQ q
 refine aX (j5 r) λcM bh=>?_;clear r;(clear m;subst cM);subst bh;have f:0<=k/\k<=1000000:=by
  by_cases l:0<=k/\k<=1000000
  ·exact l
  ·(replace a:=(if_neg l)▸a);exact uP a
 replace a:=(if_pos f)▸a;refine wpAny_For (vo (g:=rX) (R:=qH) (Q:=λb _=>b=(k,o)) K D uQ hs X S ?_ λI aC bt t cJ v eE k' bu h st _ h3 w j it=>?_) (nP rfl)
 ·unfold M.bind;refine e1▸?_;show aR G qH ((if 0<=k/\k<=1000000 then rX k else M.fail) o) J s _;refine(if_pos f)▸?_;rintro b h' t aA _ _ rfl
  rfl
 ·have e3:=h3.cG h (b:=(k',eE)) rfl;cases e3;have g:=Step.grow h j;exact zf (outer:=outer) (dq:={s with heap:=aC,toks:=t}) (dX:=v) (T:=uz G.tg (G.ctx n) i b (.fix (d9 k)) L' ah) Y.hh hb (h.outside w) (Heap.get?_none_of_le w) Z hk (λ_ _ _ _ c=>c.next)
   (λVk da q=>by
    obtain⟨rfl,rfl⟩:=q
    exact#[F.step st,sep,P,λe dF ey jc oH base jd ia jm B hd u=>Nv B hd u λsg x=>px e dF sg jc oH (st.toS.trans jd) ia jm x])
   (λ_ _ _ _ _ _ _ q=>q.elim) (k.toNat+1) _ #[bt,cJ,v,_,0,L,rfl,g.toS,h.grow j,bu.step h g,it,a]
end
end Qh
namespace Qh
open PySem PyProof.Rows
def Cv(a:Array Value)(n i:Nat)(x:Value):Obj.mapSeq (·.setIfInBounds i x) {cls:=.type "list",data:=.seq a n}={cls:=.type "list",data:=.seq (a.setIfInBounds i x) n}:=by simp[Obj.mapSeq]
def K4{prog:Program}{w:World}{A:Around}{E:bN}{s:Shared}{l:Addr}{a:Array Value}{k:Int}{t:Tok}(f:s.heap.PlainList l a)(g:0<=k)(b:k<2^63)(o:k<a.size)(h:∀d,d.PlainList l (a.setIfInBounds k.toNat v)->Heap.SameBut l s.heap d->Q Unit.unit {s with heap:=d}):
  wpAny (model prog w) A (setItem (.ref l) (.int k t) v) Q E s:=by
 refine cb (id f) λne e=>?_;have c:=f.isList;unfold setItem
 try with_reducible refine wpAny_holding ?_
 first|refine wpAny_bind (wpAny_pure ?_)|skip
 refine wpAny_bind (wpAny_sequenceKey c.typeIs ∅ ?_)
 refine wpAny_bind (wpAny_callSpecial?_slot c.typeIs slot_list_setitem
  (wpAny_call_entry slot_list_setitem c.typeIs entry_list_setitem ?_ (args_list_setitem _ _ _)))
 show wpAny _ _ (Builtin.List.listSubscript? (.int k t) >>= _) _ _ s;refine wpAny_bind (wpAny_listSubscript_int (fitsIndex_of g b) ?_);clear b;obtain⟨j,rfl⟩:=Int.eq_ofNat_of_zero_le g;have m:j<a.size:=by lia
 show wpAny _ _ ((seqItemAt l j >>= λr=>pure (r.map (j,·))) >>= _) _ _ s;refine wpAny_bind (wpAny_bind (wpAny_seqItemAt e rfl (wpAny_pure ?_)));rw[(Array.getElem?_eq_getElem m)];show wpAny _ _ (setSeqItemAt l j v >>= _) _ _ s;have i:(s.heap.update l (Obj.mapSeq (·.setIfInBounds j v))).PlainList l (a.setIfInBounds j v):=
  #[ne,by rw[Heap.get?_update_self _ e (by rw[Cv];rfl),Cv]]
 refine wpAny_bind (wpAny_setSeqItemAt e rfl ?_)
 first
  |exact wpAny_bind (wpAny_pure (wpAny_pure #[.none,rfl,wpAny_pure (h _ i (Heap.SameBut.update ..))]))
  |exact wpAny_pure #[.none,rfl,wpAny_pure (h _ i (Heap.SameBut.update ..))]
section
variable{G:Gd}{n:Nat}{A:Around}{N:List Str}{env:Env}{s:Shared}{J aA:List Addr}{U ah:H}{h h':Heap}{L:aP}{E:bN}
def vO(S:aI G J U h)(f:a∈J)(hk:∀b o,b≠a->h.get? b=some o->h'.get? b=some o):∀b xs,IsTup h b xs->IsTup h' b xs:=λb xs t=>by
 exact aQ (t) λd e c=>#[d,hk b d (λq=>(S.ay t) (q▸f)) e,c]
def C7(b:kvs.map (·.1)=es.map (·.1))(d:bL G J h (kvs.map (·.2)) (es.map (·.2)))(r:Rel G J h v u)(k:Str):
  (stored kvs k v).map (·.1)=(bp es k u).map (·.1)/\bL G J h ((stored kvs k v).map (·.2)) ((bp es k u).map (·.2)):=by
 have a:kvs.any (λc=>c.1=k)=es.any (λe=>e.1=k):=by
  have j:kvs.any (λc=>decide (c.1=k))=(kvs.map (·.1)).any λy=>decide (y=k):=by(refine(List.any_map)▸?_);rfl
  have l:es.any (λc=>decide (c.1=k))=(es.map (·.1)).any λy=>decide (y=k):=by(refine(List.any_map)▸?_);rfl
  refine j▸l▸b▸?_;with_reducible rfl
 unfold stored bp;refine a.symm▸?_
 by_cases f:es.any (λe=>e.1=k)=true
 ·refine(if_pos f)▸(if_pos f)▸?_;clear f a
  induction kvs generalizing es with
  |nil=>
   clear d;cases es with
   |nil=>exact#[rfl,.nil]
   |cons e es=>cases b
  |cons c kvs m=>
   cases es with
   |nil=>cases b
   |cons e es=>
    simp only[List.map_cons,List.cons.injEq] at b d;cases d with
    |cons o d=>
     refine aX (m b.2 d) λg i=>?_;have q:c.1=e.1:=b.1;simp only[List.map_cons]
     by_cases hk:e.1=k
     ·simp only[q,hk,if_true];exact#[by(refine g▸?_;with_reducible rfl),.cons r i]
     ·simp only[q,hk,if_false];refine#[?_,.cons o i];refine g▸?_;with_reducible rfl
 ·refine(if_neg f)▸(if_neg f)▸?_;simp only[List.map_append,List.map_cons,List.map_nil];exact#[by(refine b▸?_;with_reducible rfl),d.append (.cons r .nil)]
def LL{o i e:Value}{z B w:V}(S:aI G J U s.heap)(x:Rel G J s.heap o z)(R:Rel G J s.heap i B)(re:Rel G J s.heap e w)(h:PU G (iB z B w U) J s Q):wpAny G.mo A (setItem o i e) Q E s:=by
 cases z with
|ref j=>
  cases B with
  |int k=>
   refine bl (aR.bind h) λT Y r l=>?_;have zz:=eT r;clear r;obtain⟨j',q,rfl,y⟩:=zz;refine jt q λZ=>?_;subst Z;refine aX (aR.ite l) λp t=>?_;have zz:=S.Ay y x;clear x;obtain⟨a,xs,rfl,u,hl,X⟩:=zz;(apply eY R;intro _);have f:=X.length;have hj:=(List.getElem?_eq_some_iff.mp y).1;refine K4 hl p.1 ?_ (by(refine(List.size_toArray)▸?_;refine f▸?_);exact p.2.1) λh' C m=>?_
   ·have l:=p.2.1;have t:=p.2.2;have:aJ=1000000:=rfl;exact cD 0x7007007007007007007007007007a0184c04900904904904920534184c14e346007247d078ce rfl l (Int.ofNat_le.mpr t) (congrArg Int.ofNat this)
   ·have g:∀b o,b≠a->s.heap.get? b=some o->h'.get? b=some o:=λb o hb e=>(m.2 b hb).trans e;exact aX (S.turn u g (o:=.af (T.set k.toNat w)) #[xs.set k.toNat e,by simpa using C,(X.set k.toNat re).mono (vO S (List.mem_of_getElem? u) g) λ_ _ e=>e]) λD st=>t Unit.unit h' s.toks J st D trivial
  |str k=>
   obtain⟨ob,Y,r,l⟩:=aR.bind h;have zz:=j8 r;clear r;obtain⟨rfl,y⟩:=zz;cases ob with
   |az es=>
    refine aX (aR.ite l) λp t=>ja (S.dict y x) λa F aW u hd v I=>?_;clear x;subst aW;(apply lq R;intro _);have f:F.length=es.length:=by have:=congrArg List.length v;simpa using this
    refine wpAny_setItem_pairs (strKind_is _ _ _ _) hd (λh' K m=>?_) (by(refine f▸?_);exact iC p);have g:∀b o,b≠a->s.heap.get? b=some o->h'.get? b=some o:=λb o hb e=>(m.2 b hb).trans e;exact aX (C7 v I re k) λi1 i2=>aX (S.turn u g (o:=.az (bp es k w)) #[_,K,i1,i2.mono (vO S (List.mem_of_getElem? u) g) λ_ _ e=>e]) λD st=>t Unit.unit h' (s.toks+1) J st D trivial
   |af T=>exact l.elim
   |inst c d=>exact l.elim
   |dM n=>exact l.elim
  |_=>exact h.elim
|_=>exact h.elim
def DN(S:aI G J U s.heap)(i:Rel G J s.heap o uo)(re:Rel G J s.heap e ue)(h:PU G (tJ uo ue U) J s λ_ s'=>Q .none s'):wpAny G.mo A (call (.builtin "list.append") [o,e]) Q E s:=by
 cases uo with
|ref j=>
  refine bB λC p=>bl (aR.bind h) λr D k t=>ct (eT k) λF q d u=>?_;clear k;(clear h DN;subst d);refine jt q λv=>?_;subst v;obtain⟨w,x⟩:=aR.ite t;refine fY (S.Ay u i) λa y d l z m=>?_;clear i;subst d;refine p ?_;refine wpAny_list_append_plain z (λh' f g=>?_) (by(refine(List.size_toArray)▸?_;refine(m.length)▸?_);exact iC w);have c:∀b o,b≠a->s.heap.get? b=some o->h'.get? b=some o:=λb o hb e=>(g.2 b hb).trans e;exact aX (S.turn l c (o:=.af (r++[ue])) #[y++[e],by simpa using f,(m.append (.cons re .nil)).mono (vO S (List.mem_of_getElem? l) c) λ_ _ e=>e]) λB st=>x Unit.unit h' s.toks J st B trivial
|_=>exact h.elim
def C8:∀{more:List (Str×Value)}{fs:List (Str×V)}{kvs:List (Str×Value)}{es:List (Str×V)},kvs.map (·.1)=es.map (·.1)->bL G J h (kvs.map (·.2)) (es.map (·.2))->more.map (·.1)=fs.map (·.1)->bL G J h (more.map (·.2)) (fs.map (·.2))->(merged kvs more).map (·.1)=(iI es fs).map (·.1)/\bL G J h ((merged kvs more).map (·.2)) ((iI es fs).map (·.2))
|[],[],_,_,a,b,_,_=>#[a,b]
|[],_::_,_,_,_,_,q,_=>by cases q
|_::_,[],_,_,_,_,q,_=>by cases q
|(k,v)::more,(k',u)::fs,kvs,es,a,b,q1,q2=>by
  simp only[List.map_cons,List.cons.injEq] at q1;cases q2 with
  |cons r q2=>
   obtain⟨c,d⟩:=C7 a b r k;have:=q1.1;subst this;exact C8 (kvs:=stored kvs k v) (es:=bp es k u) c d q1.2 q2
def Mp(K:cP G)(S:aI G J U s.heap)(B:Rel G J s.heap o uo)(re:Rel G J s.heap e ue)(h:PU G (wC uo ue U) J s λ_ s'=>Q .none s'):wpAny G.mo A (call (.builtin "dict.update") [o,e]) Q E s:=by
 cases uo with
|ref i=>cases ue with
  |ref j=>
   obtain⟨C,aw,u,D⟩:=aR.bind h;have zz:=j8 u;clear u;obtain⟨rfl,I⟩:=zz;obtain⟨R,bP,v,k⟩:=aR.bind D;have zz:=j8 v;clear v;obtain⟨rfl,T⟩:=zz;cases C with
   |az es=>cases R with
    |az fs=>
     obtain⟨⟨X,l⟩,Y⟩:=aR.ite k;refine ja (S.dict I B) λa c Z g x d m=>ja (S.dict T re) λb more eH y p z Vl=>?_;subst Z;subst eH
     have r:a≠b:=λq=>l (by
      subst q
      exact(List.getElem?_inj (List.getElem?_eq_some_iff.mp g).1 S.nodup).mp (g.trans y.symm))
     have n1:c.length=es.length:=by have:=congrArg List.length d;simpa using this
     have n2:more.length=fs.length:=by have:=congrArg List.length z;simpa using this
     refine call_meetsIn PySem.F.slot_dict_update x.typeIs PySem.F.entry_dict_update (PySem.F.args_dict_update_2 _ _) (meets_dict_update (strKind G.prog G.w) a b r (S.wV K (List.mem_of_getElem? y)))
      #[c,more,x,p,by rw[n1,n2];exact iC X,λh' Vm _ t=>?_]
     have f:∀b o,b≠a->s.heap.get? b=some o->h'.get? b=some o:=λb o hb e=>(t.2 b hb).trans e;obtain⟨i1,i2⟩:=C8 d m z Vl;exact aX (S.turn g f (o:=.az (iI es fs)) #[_,Vm,i1,i2.mono (vO S (List.mem_of_getElem? g) f) λ_ _ e=>e]) λS' st=>Y Unit.unit h' s.toks J st S' trivial
    |_=>exact k.elim
   |_=>exact k.elim
  |_=>exact h.elim
|_=>exact h.elim
end
section
variable{G:Gd}{n:Nat}{A:Around}{N:List Str}{env:Env}
def PS.unit{m:M Unit}{f:Unit->Qh.N Fl}{L:aP}{U:H}{J:List Addr}{s:Shared}{Q:Flow->Shared->Prop}{K:Unit->Shared->Prop}(h:PS G N env (Qh.N.bind (Qh.N.lift λ_=>m) f L U) J s Q)(X:bC G N env J s.heap L)(S:aI G J U s.heap)(k:∀a tk b c,aI G b c a->bC G N env b a L->PS G N env (f Unit.unit L c) b {s with heap:=a,toks:=tk} Q->K Unit.unit {s with heap:=a,toks:=tk}):PU G (m U) J s K:=by refine bl (PS.lift h) λu d e g=>(e)▸?_;intro _ a tk b st i _;exact k a tk b d i (X.step S st) (g.step st.toS)
def Po{o i e:Qh.E}{o' b e':au}{p p':Pos}(k:a9 G n A N env e e')(l:a9 G n A N env o o')(m:a9 G n A N env i b)(q:swapsWith e' (some (.Subscript o' b p')) p.line env=pure false):
  dU G n A N env (.eX o i e) (.Assign [.Subscript o' b p'] e' p):=λs J U L Q E X S h=>
 wpAny_Assign_Subscript (k.gI X S h λv K P R T u t f st r w=>l.gI t f w λY Z cJ eh bP fU x c y z d=>m.gI x c d λWH dF fk fS eE A5 B g j C a=>
  LL g (z.step j c) C ((r.step y f).step j c) (PS.unit a B g λey jc oH iJ D F I=>I.cG D F .next)) q
def Mq{o e:Qh.E}{o' e':au}{ap p z:Pos}(B:a9 G n A N env o o')(C:a9 G n A N env e e')(hb:gW o'=true)(c:(ap.endLine==p.line)=true)(D:interactive env=false)(d:starEach [e'] env=[(false,eval e' env)]):dU G n A N env (.append o e) (.Expr (.Call (.Attribute o' "append" ap) [e'] [] p) z):=λs J U L Q E X S h=>by
 refine wpAny_Expr_any (Call_method1 (sN hb) d c (B.gI X S h λy k l aL aw u I f st r m=>?_)) D rfl;refine bB λXx K=>bl (PS.lift m) λvs bP t g=>ct (eT t) λj P i R=>?_;clear t;(clear m;subst P);subst i;refine fY (f.Ay (s:={s with heap:=k,toks:=l}) R r) λa xs i hj v rl=>?_;subst i;refine K ?_;refine#["list",_,PySem.F.plainAttrs_list,PySem.slot_list_append,PySem.type_list_append,v.isList.typeIs,(λb q=>by cases q;obtain⟨q,T⟩:=v;exact#[_,T,rfl]),?_];have:=callWith_method1 (first:=[Value.ref a]) (id:="list.append") (pos:=p) (env:=env) (e:=e') (rest:=[]) (M:=model G.prog G.w) (A:=A) (Q:=λ_=>Q .next) (E:=E) (s:={s with heap:=k,toks:=l})
  (args_cons (C.gI I f g λy' bt cJ eh eE u' Y x Z r' hq=>args_nil (DN x (r.step Z f) r' (PS.unit hq Y x λey jc oH iJ ia jm hr=>hr.cG ia jm .next))) d) d rfl
 replace this:=d▸this;exact this
def C9(b:pQ u aw=.ok es bP):∃i,u=.ref i/\bP=aw/\aw[i]?=some (.az es):=by
 cases u with
|ref i=>
  refine bl (eJ b) λo j c a=>aX (j8 c) λd e=>?_;clear b;subst d;clear c;cases o with
  |az f=>(refine eR a λg h=>?_;subst g;subst h);exact#[i,rfl,rfl,e]
  |af _=>exact dc a
  |inst _ _=>exact dc a
  |dM _=>exact dc a
|_=>exact dc b
def Mr{o e:Qh.E}{o' e':au}{ap p v:Pos}(K:cP G)(x:a9 G n A N env o o')(z:a9 G n A N env e e')(hb:gW o'=true)(a:(ap.endLine==p.line)=true)(B:interactive env=false)(b:starEach [e'] env=[(false,eval e' env)]):dU G n A N env (.update o e) (.Expr (.Call (.Attribute o' "update" ap) [e'] [] p) v):=λs J U L Q E X S h=>by
 refine wpAny_Expr_any (Call_method1 (sN hb) b a (x.gI X S h λy j k aL aw u C c st r l=>?_)) B rfl;refine bl (PS.lift l) λes bP m f=>ct (C9 m) λi D g I=>?_;clear m l;subst D;subst g;refine ja (aI.dict (s:={s with heap:=j,toks:=k}) c I r) λd P g R q k1 k2=>?_;subst g;refine#["dict",_,PySem.F.plainAttrs_dict,PySem.F.slot_dict_update,PySem.F.type_dict_update,q.typeIs,q.mapOf.noDict,?_];have:=callWith_method1 (first:=[Value.ref d]) (id:="dict.update") (pos:=p) (env:=env) (e:=e') (rest:=[]) (M:=model G.prog G.w) (A:=A) (Q:=λ_=>Q .next) (E:=E) (s:={s with heap:=j,toks:=k})
  (args_cons (z.gI C c f λy' bt cJ eh eE u' T t Y Z hq=>args_nil (Mp K t (r.step Y c) Z (PS.unit hq T t λey jc oH iJ ia jm hr=>hr.cG ia jm .next))) b) b rfl
 replace this:=b▸this;exact this
def bC.Pp(X:bC G N env J h L)(l:env.locals≠C)(p:∀y c,env.kindOf y=some .cell->env.cells.lookup y=some c->c≠C)(j:∀a xs,IsTup h a xs->IsTup h' a xs)(hk:∀b o,b≠C->h.get? b=some o->h'.get? b=some o):bC G N env J h' L:=by
 refine aQ (X.ns) λm s t=>#[X.kind,X.glob,X.blt,#[m,s.at λo e=>hk _ _ l e,λi u y f g w=>?_],λy k=>?_,X.has,X.apart,X.nodup,X.kC,X.kD,X.newL,X.jl]
 ·exact aQ (t i u y f g w) λv q r=>#[v,q,r.mono j λ_ _ e=>e]
 ·refine bB λI x=>?_;obtain⟨c,z,d,⟨o,B,D⟩,F⟩:=X.cl y k;refine x (#[c,z,d,#[o,hk _ _ (p y c k d) B,D],λi u f g=>?_]);exact aQ (F i u f g) λv q r=>#[v,q,r.mono j λ_ _ e=>e]
def Dc{d iter:au}{x y:Str}{px pos py:Pos}{ifs:List au}{scope:Scope}{v i:Nat}{br:List Nat}{cl:List (Str×Addr)}{I:Addr}{sr:Src}{f:V->M (Option V)}{Q:Flow->Shared->Prop}{E:bN}{bE:Shared}{u:List Addr}{aw:H}{L:aP}{B cJ:Nat}{R:Heap}(hh:A.handled=none)(w:bC G N env u bE.heap L)(T:aI G u aw bE.heap)(Z:gZ N env scope x v br)(U:∀y,(y,NameKind.free)∈scope.names->cl.lookup y=env.cells.lookup y)(hI:bE.heap.objs.size<=I)(hk:∀b o,bE.heap.get? b=some o->R.get? b=some o)(F:et G u R I sr 0)(hB:B<=aJ+1)(j:∀C F,TurnOk G A N (compEnvC scope cl C env) (cq (dj L br) v F) ifs d (f F))(hy:N[i]?=some y)(uR:env.kindOf y=some .local∨env.kindOf y=some .cell){vL:V}{ah:H}(ev:M.bind (dG sr f B 0) (λvs=>dB (.af vs)) aw=.ok vL ah)(h:PS G N env (Qh.N.bind (Qh.N.put i vL) (λ_=>Qh.N.pure .next) L ah) u bE Q):
  wpAny G.mo A (newList []) (λp ib=>wpAny G.mo A (newFunctionEnv scope env.globals cl [] env.qual none .none (some env)) (λg qy=>
   codeAny G.mo A (.compStart (.ListComp d [#[.Name x px,iter,ifs,0]] scope pos) 0 (.ref I) p {g with scope:=relabel scope env}) (compPost G.mo A E (some (assign (.Name y py) env)) (λ_=>Q .next) p g.locals) qy) E ib) E {bE with heap:=R,toks:=cJ}:=by
 refine bB λXx X=>bl (eJ ev) λY dA ec e2=>eR e2 λaO cO=>?_;subst aO;subst cO;refine X ?_;have ft:∀a,bE.heap.get? a=none->G.hb.get? a=none:=λa ha=>by
  cases e:G.hb.get? a with
  |none=>rfl
  |some o=>(replace ha:=(T.base _ _ e)▸ha);exact ez ha
 refine DK hh w T Z U hI hk F hB ec j λD C h' tk aA xs mC hD hC hDC st S hl rl nG iq r=>?_;have Ir:∀a o,bE.heap.get? a=some o->a≠C:=λa o e q=>by subst q;(replace e:=hC▸e);exact bR e
 have BO:env.locals≠C:=by obtain⟨m,⟨o,_,_,ho,_⟩,_⟩:=w.ns;exact Ir _ _ ho
 have k:∀y c,env.kindOf y=some .cell->env.cells.lookup y=some c->c≠C:=λy c h1 h2=>by
  refine bB λXx X=>?_;obtain⟨c',ov,l,⟨o,ho,_⟩,_⟩:=w.cl y h1;refine X ?_;(replace l:=h2▸l);(refine d7 l λaO=>?_;subst aO);exact Ir _ _ ho
 refine aX (S.adopt nG (ft D hD) (o:=.af Y) #[xs,hl,rl.mono (λ_ _ t=>t) λi b e=>by rw[List.getElem?_append_left (List.getElem?_eq_some_iff.mp e).1];exact e]) λS' hi=>?_;have s:=st.adopt hD;have Uw:C∉aA++[D]:=λq=>by
  rcases List.mem_append.mp q with q|q
  ·exact iq q
  ·simp at q;exact hDC q.symm
 show wpAny _ A (assign (.Name y py) env (.ref D)) _ E _;refine wpAny_assign_Name (tj (w.step T s) S' hy uR (.ref hi) λdF fk d6 dI gf _ kp=>#[mC,r.at λo e=>kp C o (Ne.symm BO) (λz hz q=>k z C hz q rfl) e,λey AF=>?_]);have J:∀b o,b≠C->dF.get? b=some o->ey.get? b=some o:=λb o hb e=>(AF.2 b hb).trans e;have o4:=pF (r.at λo e=>kp C o (Ne.symm BO) (λz hz q=>k z C hz q rfl) e);have tu:∀a K,IsTup dF a K->IsTup ey a K:=λa K t=>by
  have:=o4 a K t;obtain⟨o,e,c⟩:=t;exact#[o,J a o this e,c]
 exact h .next ey fk _ ((s.toS.trans d6).other hC J) (dI.iY Uw (ft C hC) o4 J) (gf.Pp BO k tu J) .next
def Cw{y:Str}{b pos p p':Pos}{a:au}{x:Str}{px:Pos}{iter:au}{ifs:List au}{scope:Scope}{Q:Flow->Shared->Prop}{E:bN}(c:swapsWith (.ListComp a [#[.Name x px,iter,ifs,0]] scope pos) (some (.Name y b)) p.line env=pure true)(h:wpAny G.mo A (comprehension (.ListComp a [#[.Name x px,iter,ifs,0]] scope pos) scope env (firstIterPos [#[.Name x px,iter,ifs,0]] pos) (newList []) (firstAsync [#[.Name x px,iter,ifs,0]]) (firstIter [#[.Name x px,iter,ifs,0]] env) (some (assign (.Name y b) env))) (λ_=>Q .next) E s):
  wpAny G.mo A (exec (.Assign [.Name y b] (.ListComp a [#[.Name x px,iter,ifs,0]] scope pos) p) env) Q E s:=by refine(exec_Assign_Name_used y b _ p c)▸wpAny_bind (wpAny_standAt (wpAny_bind ?_));show wpAny _ A (do let _ ←comprehension _ _ _ _ _ _ _ _;pure Unit.unit) _ E s;exact wpAny_bind (wpAny_mono h (λ_ _ q=>wpAny_pure (wpAny_pure q)) λ_ _ e=>e)
def CR{K src:E}{a iter:au}{x y:Str}{px pos o p:Pos}{ifs:List au}{scope:Scope}{v i:Nat}{br:List Nat}{f:aP->V->M (Option V)}(Y:Ao A n)(hE:a9 G n A N env src iter)(Z:gZ N env scope x v br)(q:kt iter=true)(t:∀L U,aj (G.ctx n) K L U=M.bind (aj (G.ctx n) src L) (λx=>M.bind (srcOf x) λw=>M.bind (fh w) λk=>if k<=aJ then M.bind (dG w (λb=>f (cq (dj L br) v b) b) (k+1) 0) λvs=>dB (.af vs) else M.fail) U)(d:∀cl C L b,(∀y,(y,NameKind.free)∈scope.names->cl.lookup y=env.cells.lookup y)->TurnOk G A N (compEnvC scope cl C env) L ifs a (f L b))(z:N[i]?=some y)(uR:env.kindOf y=some .local∨env.kindOf y=some .cell)(B:swapsWith (.ListComp a [#[.Name x px,iter,ifs,0]] scope pos) (some (.Name y o)) p.line env=pure true):
  dU G n A N env (.aK i K) (.Assign [.Name y o] (.ListComp a [#[.Name x px,iter,ifs,0]] scope pos) p):=λs J U L Q E X S h=>by
 refine bl (PS.lift h) λvL ah P h0=>?_;rw[t] at P;refine bB λXx D=>bl (eJ P) λu aw e1 e2=>?_;have my:∀y∈scope.names,y.2=.free->(env.cells.lookup y.1).isSome=true:=λy z hf=>by
  refine bl (X.cl y.1 (Z.free y z hf)) λc _ m _=>?_
  (refine m▸?_);rfl
 obtain⟨cl,e,j⟩:=sO my;refine D (Cw (p':=o) B (wpAny_comprehension_free rfl (nP q) e Z.kind Z.locs (hE s J U L _ E X S ?_)));refine e1▸?_;intro xv R T aL st F r;refine bl (eJ e2) λw bP e3 e4=>(kU (s:={s with heap:=R,toks:=T}) F r e3 λI bt hI hk b=>?_).2;refine bB λXx D=>?_;obtain⟨rfl,_⟩:=kU (s:={s with heap:=R,toks:=T}) (A:=A) (E:=λ_ _=>True) (Q:=λ_ _=>True) F r e3 (λ_ _ _ _ _=>trivial);refine bl (eJ e4) λk eE e5 g=>?_;obtain rfl:=yy e5;refine D ?_;have l:k<=aJ:=by
  by_cases m:k<=aJ
  ·exact m
  ·(replace g:=(if_neg m)▸g);exact dc g
 replace g:=(if_pos l)▸g;exact Dc Y.hh (X.step S st) F Z j hI hk b (aM tx rfl l) (λC b=>d cl C _ b j) z uR g (h0.step st.toS)
def Lk{elt src:E}{a e:au}{x y:Str}{px pos r p B d:Pos}(K:cP G)(Y:Ao A n)(hE:a9 G n A N env src e)(Z:gZ N env scope x v br)(uQ:env.kindOf "range"=some .globalImplicit)(hs:starEach [e] env=[(false,eval e env)])(f:∀cl C,(∀y,(y,NameKind.free)∈scope.names->cl.lookup y=env.cells.lookup y)->a9 G n A N (compEnvC scope cl C env) elt a)(t:N[i]?=some y)(uR:env.kindOf y=some .local∨env.kindOf y=some .cell)(w:swapsWith (.ListComp a [#[.Name x px,.Call (.Name "range" B) [e] [] d,[],0]] scope pos) (some (.Name y r)) p.line env=pure true):
  dU G n A N env (.aK i (.fZ elt v br src)) (.Assign [.Name y r] (.ListComp a [#[.Name x px,.Call (.Name "range" B) [e] [] d,[],0]] scope pos) p):=λs J U L Q E X S h=>by
 refine bB λXx aH=>bl (PS.lift h) λvL ah ev h0=>bl (eJ ev) λu aw e1 D=>bl (eJ D) λk F P l=>aX (j5 P) λcM bh=>?_;clear P;(clear D;subst cM);subst bh;refine aH ?_;have m:0<=k/\k<=1000000:=by
  by_cases q:0<=k/\k<=1000000
  ·exact q
  ·(replace l:=(if_neg q)▸l);exact dc l
 replace l:=(if_pos m)▸l;have my:∀y∈scope.names,y.2=.free->(env.cells.lookup y.1).isSome=true:=λy t hf=>by
  refine bl (X.cl y.1 (Z.free y t hf)) λc _ q _=>?_
  (refine q▸?_);rfl
 refine aQ (sO my) λcl j o=>Cw (p':=r) w (wpAny_comprehension_free rfl (nP rfl) j Z.kind Z.locs (vo (g:=rX) (R:=qH) (Q:=λb _=>b=(k,F)) K hE uQ hs X S ?_ λI aC bt T cJ aL eE k' bu aG st _ h3 hI z it=>?_))
 ·unfold M.bind;refine e1▸?_;show aR G qH ((if 0<=k/\k<=1000000 then rX k else M.fail) F) J s _;refine(if_pos m)▸?_;rintro b h' T aA _ _ rfl
  rfl
 ·have e5:=h3.cG aG rfl;cases e5;exact Dc (bE:={s with heap:=aC,toks:=T}) Y.hh bu aG Z o hI z it (by have:aJ=1000000:=rfl;lia) (λC it=>sP (f cl C o)) t uR l (h0.step st.toS)
end
section
variable{G:Gd}{n:Nat}{A:Around}{N:List Str}{env:Env}{s:Shared}{J aA:List Addr}{U ah:H}{h h':Heap}{L:aP}{E:bN}{Q:Flow->Shared->Prop}
def NJ{c:Nat}{m:Str}{st:Stmt}:dU G n A N env (.raise c m) st:=λs J U L Q E X S h=>h.elim
def FO{I:Addr}{sr:Src}{us:List V}(hh:A.handled=none)(p:G.hb.get? I=none)(q:∀j,ea sr j U=.ok us[j]? U):
  ∀(m k:Nat)(s:Shared)(Q:List Value->Shared->Prop),k+m=us.length->aI G J U s.heap->et G J s.heap I sr k->
   (∀vs h' tk,(∀b o,b≠I->s.heap.get? b=some o->h'.get? b=some o)->bL G J h' vs (us.drop k)->et G J h' I sr us.length->Q vs {s with heap:=h',toks:=tk})->
   wpAny G.mo A (draw (.ref I) m) Q E s
|0,k,s,Q,hk,S,it,i=>by
  have l:k=us.length:=cm (aM 0x34c04900904920634180c rfl hk) (aM rt rfl hk);clear hk;subst l;refine wpAny_pure (i [] s.heap s.toks (λ_ _ _ e=>e) ?_ it)
  (refine(List.drop_eq_nil_of_le (aU _)).symm▸?_);exact .nil
|m+1,k,s,Q,hk,S,it,i=>by
  have g:k<us.length:=bD km rfl hk;show wpAny _ _ (pyNext (.ref I) >>= _) Q E s;have u:=q k;rw[List.getElem?_eq_getElem g] at u;refine wpAny_bind ((tL hh S it u λx C D w y=>?_).2);refine ct (y) λv F r d=>?_;clear y;subst F;have z:=it.own;refine wpAny_bind (wpAny_holding (FO hh p q m (k+1) {s with heap:=C,toks:=D} _ (cm (bD oc rfl hk) (bD og rfl hk)) (S.iY (z.kr S) p z.oB w) d λvs K R B T f=>wpAny_pure ?_));have X:=d.own;refine i (v::vs) K R (λb o hb e=>B b o hb (w b o hb e)) ?_ f;exact(List.drop_eq_getElem_cons g)▸.cons (r.mono (λa Y t=>by have:=X.oB a Y t;obtain⟨o,e,c⟩:=t;exact#[o,B a o this e,c]) λ_ _ e=>e) T
def K2{x:Value}{u:V}{sr:Src}{us:List V}{T id:String}(hh:A.handled=none)(S:aI G J U s.heap)(X:bC G N env J s.heap L)(K:Rel G J s.heap x u)(R:srcOf u U=.ok sr U)(C:∀j,ea sr j U=.ok us[j]? U)(r:s.TypeIs x T)(v:Slot T "__iter__" id){Q:List Value->Shared->Prop}(Y:∀vs h' tk,Step J s.heap J h'->aI G J U h'->bC G N env J h' L->bL G J h' vs us->Q vs {s with heap:=h',toks:=tk}):wpAny G.mo A (unpackItems x us.length none) Q E s:=by
 unfold unpackItems;refine wpAny_bind ?_;unfold notIterableAtAll;refine wpAny_bind (wpAny_specialOf r v.lookup ?_);refine wpAny_pure ?_;simp only[Bool.false_eq_true,if_false];refine wpAny_bind (wpAny_holding ((kU S K R λI Z w y z=>?_).2));have g:=S.grow y;have i:=S.outside w;refine wpAny_bind (wpAny_holding (FO hh i C us.length 0 {s with heap:=Z} _ (cm (a7 jG rfl) (a7 oh rfl)) g z λvs bt cJ B k b=>?_));replace k:=(List.drop_zero)▸k;rw[if_neg (by(refine(k.length)▸?_);exact Nat.not_lt.mpr (a7 204477000 rfl))];have l:=z.own;have m:aI G J U bt:=g.iY (l.kr g) i l.oB B;have D:=C us.length;rw[List.getElem?_eq_none (aU _)] at D;refine wpAny_bind (wpAny_holding ((tL hh m b D λx F fk p hv=>?_).2));subst (hv);simp only[Option.isSome_none,Bool.false_eq_true,if_false];have d:=b.own;have dI:aI G J U F:=m.iY (d.kr m) i d.oB p;have Vn:s.heap.get? I=none:=Heap.get?_none_of_le w;refine wpAny_pure (Y vs F fk #[#[[],by simp],λa ha=>.inl ha,λa o e _=>?_] dI (((X.step S (Step.grow S y)).other g l B).other m d p) (k.mono (λa ys t=>by have:=d.oB a ys t;obtain⟨o,e,c⟩:=t;exact#[o,p a o this e,c]) λ_ _ e=>e));have f:a≠I:=λq=>by(clear d l b i z w;subst q);(replace e:=Vn▸e);exact bR e
 exact p a o f (B a o f (y a o e))
inductive kE(N:List Str)(env:Env):List Nat->List au->Prop
|nil:kE N env [] []
|cons {i:Nat}{y:Str}{p:Pos}{is:List Nat}{l:List au}:N[i]?=some y->(env.kindOf y=some .local∨env.kindOf y=some .cell)->kE N env is l->kE N env (i::is) (.Name y p::l)
def kE.len(T:kE N env is l):(assignEach l env).length=is.length:=by
 induction T with
|nil=>rfl
|cons _ _ _ a=>exact congrArg (·+1) a
def kE.star(T:kE N env is l):(assignEach l env).findIdx? (·.1)=none:=by
 rw[List.findIdx?_eq_none_iff]
 induction T with
|nil=>intro x a;cases a
|cons _ _ _ b=>
  intro x a;rcases List.mem_cons.mp a with rfl|q
  ·rfl
  ·exact b x q
def Pq(T:kE N env is l):∀(us:List V)(vs:List Value)(s:Shared)(L L':aP)(K:Unit->Shared->Prop),Qh.N.gm is us L U=.ok Unit.unit L' U->bC G N env J s.heap L->aI G J U s.heap->bL G J s.heap vs us->
  (∀h' tk,d5 env J s.heap J h'->aI G J U h'->bC G N env J h' L'->K Unit.unit {s with heap:=h',toks:=tk})->wpAny G.mo A (assignInOrder ((assignEach l env).map (·.2)) vs) K E s:=by
 induction T with
|nil=>
  intro us vs s L L' K e X S a b;cases us with
  |nil=>cases e;(apply Tg a);exact wpAny_pure (b s.heap s.toks (d5.refl _ _ _) S X)
  |cons u us=>exact qG e
|@cons i y p is l d hk T f=>
  intro us vs s L L' K e X S a b;cases us with
  |nil=>exact qG e
  |cons u us=>
   cases a with
   |@cons v _ vs _ r a=>
    show wpAny _ _ (do holding vs (assign (.Name y p) env v);assignInOrder ((assignEach l env).map (·.2)) vs) K E s;refine wpAny_bind (wpAny_holding (wpAny_assign_Name (tj X S d hk r λg j c k m z _=>?_)));refine f us vs {s with heap:=g,toks:=j} _ _ _ (e) m k (a.jN c S X) λo q t w x=>b o q (c.trans t) w x
def Ms:∀{L b:aP}{a:H},Qh.N.gm is us L U=.ok Unit.unit b a->a=U/\us.length=is.length:=by
 induction is generalizing us with
|nil=>
  intro L b a e;cases us with
  |nil=>cases e;exact#[rfl,rfl]
  |cons u us=>exact qG e
|cons i is c=>
  intro L b a e;cases us with
  |nil=>exact qG e
  |cons u us=>
   obtain⟨d,f⟩:=c (e);exact#[d,congrArg (·+1) f]
def Gz(Y:Ao A n)(D:a9 G n A N env x ve)(T:kE N env is l)(I:swapsWithSole [.Tuple l k tp] ve p.line env=pure false)(K:swappedStores [.Tuple l k tp] ve env=pure none):dU G n A N env (.ik is x) (.Assign [.Tuple l k tp] ve p):=λs J U L Q E X S h=>by
 refine Assign_Tuple (D.gI X S h λv c d w a u P y st r e=>?_) I K;have fin:∀(us:List V)(sr:Src)(T id:String),PS G N env (Qh.N.bind (Qh.N.gm is us) (λ_=>Qh.N.pure .next) L a) w {s with heap:=c,toks:=d} Q->srcOf u a=.ok sr a->(∀j,ea sr j a=.ok us[j]? a)->({s with heap:=c,toks:=d}:Shared).TypeIs v T->Slot T "__iter__" id->
   wpAny G.mo A (assign (.Tuple l k tp) env v) (λ_=>Q .next) E {s with heap:=c,toks:=d}:=by
  intro us sr T' id g R Z m o;refine g9 (PS.bind g) λ_ Ux eE z h3=>aX (Ms z) λcM f=>?_;clear g e;subst cM;rw[arm_assign_Tuple];refine wpAny_bind (wpAny_standAt ?_);unfold unpack;refine(T.len)▸(T.star)▸f▸wpAny_bind (wpAny_holding (K2 Y.hh y P r R Z m o λb bt cJ cK bY dH B=>?_));exact Pq T us b {s with heap:=bt,toks:=cJ} L Ux _ z dH bY B λdF fk d6 dI gf=>h3 .next dF fk _ (cK.toS.trans d6) dI gf .next
 cases u with
|ref i=>
  have C:PS G N env (Qh.N.bind (Qh.N.lift λ_=>bO (.ref i)) (λb=>Qh.N.bind (Qh.N.gm is b) λ_=>Qh.N.pure .next) L a) w {s with heap:=c,toks:=d} Q:=e;refine bl (PS.lift C) λus bP q g=>ct (eT q) λj q' t e3=>?_;clear C e;subst t;refine jt q' λaO=>?_;subst aO;refine fY (aI.list (s:={s with heap:=c,toks:=d}) y e3 r) λad xs t hi hl _=>?_;clear r;subst t;refine fin us (.live i) "list" _ g ?_ (λj=>?_) hl.typeIs slot_list_iter
  ·show M.bind (bO (.ref i)) _ _=_;unfold M.bind;(refine q▸?_);rfl
  ·show M.bind (bO (.ref i)) _ _=_;unfold M.bind;(refine q▸?_);rfl
|ay b=>
  cases r with
  |ay ht B=>exact fin b (.fix b) "tuple" _ e rfl (λ_=>rfl) ht.typeIs F.slot_tuple_iter
|_=>exact e.elim
end
section
variable{G:Gd}{n:Nat}{A:Around}{N:List Str}{env:Env}{s:Shared}{J aA:List Addr}{U ah:H}{h h':Heap}{L:aP}{E:bN}{Q:Flow->Shared->Prop}
mutual
theorem Rel.hH(hk:∀a xs,a∉G.res->IsTup h a xs->IsTup h' a xs/\a∉R):∀{v:V},Rel G J h x v->Rel (G.re R) J h' x v
|_,.none=>.none
|_,.bool b=>.bool b
|_,.int i t=>.int i t
|_,.str y t=>.str y t
|_,.ay e r n=>.ay (hk _ _ n e).1 (bL.hH hk r) (hk _ _ n e).2
|_,.ref e=>.ref e
|_,.cF=>.cF
theorem bL.hH(hk:∀a xs,a∉G.res->IsTup h a xs->IsTup h' a xs/\a∉R):∀{vs:List V},bL G J h xs vs->bL (G.re R) J h' xs vs
|_,.nil=>.nil
|_,.cons a r=>.cons (Rel.hH hk a) (bL.hH hk r)
end
def jj.hH(hk:∀a xs,a∉G.res->IsTup h a xs->IsTup h' a xs/\a∉R)(b:∀f,h.get? a=some f->h'.get? a=some f)(r:jj G J h a o):jj (G.re R) J h' a o:=by
 cases o with
|af vs=>obtain⟨xs,⟨n,e⟩,q⟩:=r;exact#[xs,#[n,b _ e],q.hH hk]
|az es=>obtain⟨g,⟨f,x,y,e,c⟩,q,i⟩:=r;exact#[g,#[f,x,y,b _ e,c],q,i.hH hk]
|inst c d=>obtain⟨j,o,q,e,z⟩:=r;exact#[j,o,q,b _ e,z]
|dM n=>obtain⟨t,e⟩:=r;exact#[t,e.at b]
def aI.hH{R:List Addr}{W:Addr->Prop}(S:aI G J U h)(k:∀a∈J,¬ W a)(hb:∀a,W a->G.hb.get? a=none)(hk:∀a o,¬ W a->h.get? a=some o->h'.get? a=some o)(f:∀a xs,a∉G.res->IsTup h a xs->¬ W a/\a∉R)(g:∀a∈R,(∃xs,IsTup h' a xs)/\G.hb.get? a=none):aI (G.re R) J U h':=
 #[λb o e=>hk b o (λq=>by have e:G.hb.get? b=some o:=e;(replace e:=(hb b q)▸e);exact bR e) (S.base b o e),S.len,S.nodup,S.new,λi a o j l=>(S.rep i a o j l).hH (λa xs n t=>#[let #[o,e,c]:=t;#[o,hk a o (f a xs n t).1 e,c],(f a xs n t).2]) (λm e=>hk _ _ (k _ (List.mem_of_getElem? j)) e),λa d=>(g a d).1,λa d=>(g a d).2]
def bC.hH{R:List Addr}{W:Addr->Prop}(X:bC G N env J h L)(hk:∀a o,¬ W a->h.get? a=some o->h'.get? a=some o)(f:∀a xs,a∉G.res->IsTup h a xs->¬ W a/\a∉R)(l:¬ W env.locals)(p:∀x c,env.kindOf x=some .cell->env.cells.lookup x=some c->¬ W c):bC (G.re R) N env J h' L:=by
 have g:∀a xs,a∉G.res->IsTup h a xs->IsTup h' a xs/\a∉R:=λa xs n t=>#[let #[o,e,c]:=t;#[o,hk a o (f a xs n t).1 e,c],(f a xs n t).2];refine aQ (X.ns) λm w z=>#[X.kind,X.glob,X.blt,#[m,w.at λo e=>hk _ _ l e,λi u y b d B=>?_],λy j=>?_,X.has,X.apart,X.nodup,X.kC,X.kD,X.newL,X.jl]
 ·exact aQ (z i u y b d B) λv q r=>#[v,q,r.hH g]
 ·refine bB λT C=>?_;obtain⟨c,D,k,⟨o,F,I⟩,K⟩:=X.cl y j;refine C (#[c,D,k,#[o,hk _ _ (p y c j k) F,I],λi u b d=>?_]);exact aQ (K i u b d) λv q r=>#[v,q,r.hH g]
def aI.less(S:aI (G.re R) J U h)(b:∀a∈G.res,a∈R):aI G J U h:=
 aI.hH (G:=G.re R) (R:=G.res) (W:=λ_=>False) S (λ_ _ q=>q) (λ_ q=>q.elim) (λ_ _ _ e=>e) (λa d n t=>#[id,λq=>n (b a q)]) λa c=>#[S.lr a (b a c),S.mG a (b a c)]
def bC.less(X:bC (G.re R) N env J h L)(b:∀a∈G.res,a∈R):bC G N env J h L:=
 bC.hH (G:=G.re R) (R:=G.res) (W:=λ_=>False) X (λ_ _ _ e=>e) (λa c n t=>#[id,λq=>n (b a q)]) id λ_ _ _ _=>id
def jn.less(r:jn (G.re R) J h fl f)(b:∀a∈G.res,a∈R):jn G J h fl f:=by
 cases r with
|next=>exact .next
|brk=>exact .brk
|cont=>exact .cont
|ret r=>exact .ret (Rel.hH (G:=G.re R) (R:=G.res) (λa c n t=>#[t,λq=>n (b a q)]) r)
variable{z TI TO i1 i2 t1 t2:Addr}{k:Nat}
def bL.none(r:bL G J h xs us)(e:xs.toArray[k]?=none):us[k]?=none:=by rw[List.getElem?_toArray,List.getElem?_eq_none_iff,r.length] at e;exact List.getElem?_eq_none_iff.mpr e
def bL.some(r:bL G J h xs us)(e:xs.toArray[k]?=some v):∃u,us[k]?=some u/\Rel G J h v u:=by
 rw[List.getElem?_toArray] at e;have hk:k<us.length:=by(refine(r.length)▸?_);exact(List.getElem?_eq_some_iff.mp e).1
 refine aQ (r.get (List.getElem?_eq_getElem hk)) λv' a q=>?_;(replace a:=e▸a);(refine d7 a λb=>?_;subst b);exact#[_,List.getElem?_eq_getElem hk,q]
end
end Qh
namespace Qh
open PySem PyProof.Rows PyProof.V
section
variable{G:Gd}{n:Nat}{A:Around}{N:List Str}{env:Env}
def Rw{a b c:E}{e l m:au}{ap p:Pos}(K:cP G)(hE:a9 G n A N env a e)(Tq:a9 G n A N env b l)(Tr:a9 G n A N env c m)(hb:gW e=true)(g:(ap.endLine==p.line)=true)(hs:starEach [l,m] env=[(false,eval l env),(false,eval m env)]):a9 G n A N env (.get a b c) (.Call (.Attribute e "get" ap) [l,m] [] p):=λs J U L Q E X S h=>by
 refine Call_method2 (sN hb) hs g (hE.then X S h λy D I aL aw u bu v st r R=>?_);refine bl (aR.bind R) λes bP T h2=>ct (C9 T) λi bh x e4=>?_;clear T R;subst bh;subst x;refine ja (aI.dict (s:={s with heap:=D,toks:=I}) v e4 r) λd kvs x Y Z k1 k2=>?_;clear r;subst x;refine#["dict","dict.get",F.plainAttrs_dict,F.slot_dict_get,F.type_dict_get,Z.typeIs,Z.mapOf.noDict,?_];refine wpAny_dict_get2 (knd:=strKind G.prog G.w) (v.wV K (List.mem_of_getElem? Y)) (Tq.then (s:={s with heap:=D,toks:=I}) bu v h2 λWI bt cJ eh eE mK dH bY cK qw h3=>Tr.then (s:={s with heap:=bt,toks:=cJ}) dH bY h3 λIq dF fk fS iJ fU gf B d6 jR h4=>?_);clear h3;cases mK with
|str k=>
  refine bl (aR.bind h4) λo uf e5 f=>?_;obtain⟨rfl,e6⟩:=j8 e5;clear e5;cases o with
  |az j=>
   refine ja (aI.dict (s:={s with heap:=dF,toks:=fk}) B e6 (.ref (d6.get (cK.get Y)))) λd' kvs' q hi' C Vo Vp=>?_;cases q;refine mz qw λ_ aO=>?_;(clear qw;subst aO);have f:PV G (M.pure ((dn j k).getD fU) uf) fS {s with heap:=dF,toks:=fk} Q:=f;have t:=zc Vo Vp k;refine#[k,_,strKind_is _ _ _ _,C.mapOf,?_];cases hg:dn j k with
   |none=>rw[hg] at t f;rw[t];exact aR.here f B jR
   |some w=>
    rw[hg] at t f;refine aQ (t) λz q1 q2=>?_;rw[q1];exact aR.here f B q2
  |af _=>exact f.elim
  |inst _ _=>exact f.elim
  |dM _=>exact f.elim
|_=>exact h4.elim
class inductive DL:List Str->List Int->EL->List (Option au)->List au->Prop
|nil:DL [] [] .nil [] []
|cons {k:Str}{i:Int}{ks:List Str}{is:List Int}{es:EL}{keys:List (Option au)}{values:List au}{u u':_}{p p':Pos}:DL ks is es keys values->
   DL (k::ks) (i::is) (.cons (.int i) es) (some (.Constant (.str k) u p)::keys) (.Constant (.int i) u' p'::values)
abbrev uS:List Str->List Int->List (PyData×PyData)
|k::ks,i::is=>(.str k,.int i)::uS ks is
|_,_=>[]
def DL.lits{ks:List Str}{is:List Int}{es:EL}{b:List (Option au)}{a:List au}(d:DL ks is es b a):litPairs b a=some (uS ks is)/\strKeyed (uS ks is)=true/\strKeysOf (uS ks is)=ks/\b.all (·.isSome)=true/\b.length=a.length/\b.length=ks.length/\
  ∀(C:Ctx)(L:aP)(U:H),dC C es L U=.ok (is.map V.int) U:=by
 induction d with
|nil=>exact#[rfl,rfl,rfl,rfl,rfl,rfl,λ_ _ _=>rfl]
|cons d c=>
  refine G9 (c) λe f g k h i j=>#[?_,f,?_,?_,congrArg (·+1) h,congrArg (·+1) i,λC L U=>?_]
  ·show Option.bind (litPairs _ _) (λr=>some (_::r))=_;rw[e];rfl
  ·exact congrArg (List.cons _) g
  ·assumption
  ·rw[y4,om];simp only[M.bind,M.pure,j,List.map_cons]
def FP{J:List Addr}{h:Heap}:∀{ks:List Str}{is:List Int}{kvs:List (Str×Value)},ks.length=is.length->FlatPairs PyData.str kvs (uS ks is)->kvs.map (·.1)=ks/\bL G J h (kvs.map (·.2)) (is.map V.int)
|[],[],kvs,_,f=>by cases f;exact#[rfl,.nil]
|k::ks,i::is,kvs,a,f=>by
  cases f with
  |cons b fr=>
   refine cb (b.int_inv) λt c=>?_;clear b;subst c;exact aX (FP (Nat.succ.inj a) fr) λd e=>#[congrArg (List.cons _) d,.cons (.int _ _) e]
|[],_::_,_,a,_=>Nat.noConfusion a
|_::_,[],_,a,_=>Nat.noConfusion a
def DL.len{ks:List Str}{is:List Int}{es:EL}{b:List (Option au)}{a:List au}(d:DL ks is es b a):ks.length=is.length:=by
 induction d with
|nil=>rfl
|cons _ c=>exact congrArg (·+1) c
def Pr{ks:List Str}{is:List Int}{es:EL}{c:List (Option au)}{b:List au}{p:Pos}(d:DL ks is es c b)(g:c≠[]):a9 G n A N env (.az ks es) (.Dict c b p):=λs J U L Q E X S h=>by
 refine bB λP i=>G9 (d.lits) λj k l m q R r=>?_;have t:=d.len;have hh:PV G (M.bind (dC (G.ctx n) es L) (λf=>if ks.length=f.length/\ks.Nodup/\ks.length<=15 then dB (.az (ks.zip f)) else M.fail) U) J s Q:=h;refine bl (aR.bind hh) λf T e u=>?_;rw[r] at e;refine eR e λv w=>?_;(clear e;subst v);subst w;obtain⟨⟨_,x,y⟩,z⟩:=aR.ite u;refine i ?_;exact Dict_lits_str j k (by rw[l];exact x) m q g (by lia) λa o Y Z B C D hk=>aQ (D) λF I K=>aX (FP (G:=G) (J:=J) (h:=s.heap) t K) λf1 f2=>aR.newDict z S hk B (Heap.dictOf_iff.mpr #[o,C,I]) (by rw[f1,(List.map_fst_zip (by simp;lia))]) (by rw[(List.map_snd_zip (by simp;lia))];exact f2)
end
section
variable{G:Gd}{n:Nat}{A:Around}{N:List Str}{env:Env}{E:bN}{s:Shared}{J aA:List Addr}{U ah:H}
def tm(e:iH u U=.ok p aw):∃i c,u=.ref i/\aw=U/\U[i]?=some (.inst c p.1)/\U[p.1]?=some (.dM p.2):=by
 cases u with
|ref i=>
  refine bl (eJ e) λo ah a g=>aX (j8 a) λb a=>?_;clear e tm;subst b;cases o with
  |inst c d=>
   refine bl (eJ g) λj l f h=>aX (j8 f) λb f=>?_;subst b;cases j with
   |dM k=>(apply fO h);exact#[i,c,rfl,rfl,a,f]
   |_=>exact dc h
  |_=>exact dc g
|_=>exact dc e
def aI.self(S:aI G J U s.heap)(g:U[i]?=some (.inst c d))(h:U[d]?=some (.dM k))(r:Rel G J s.heap v (.ref i)):
  ∃x a t,v=.ref x/\J[i]?=some x/\J[d]?=some a/\(∃o,s.heap.get? x=some o/\Go (G.cA 0) x a o)/\s.heap.Inst x (G.cA 0) (jJ (.int k t)):=by
 cases r with
|@ref x _ b=>
  exact bB λm j=>tY (S.rep _ _ _ b g) λa o e f q1 q2 q3 q4=>cb (S.rep _ _ _ e h) λt l=>j (#[x,a,t,rfl,b,e,#[o,f,q1,q2,q3,q4],o,f,q1,q2,.inr #[a,q3,q4,l]])
def DO(a:attributeBase o name env (eval o env)=eval o env)(c:((backTo pos (starEach args env)).all (λx=>!x.1)&&(backToKw pos (keywordEach [] env)).all (λx=>x.1.isSome)
   &&decide (args.length+([]:List Keyword).length+(if([]:List Keyword).isEmpty then 0 else 1)<30))=true)(b:(apos.endLine==pos.line)=true)(h:wpAny G.mo A (eval o env) (λg i=>∃f,(∀(k:Sem Bool)(j:Value×List Value->Shared->Prop),j (.ref f,[g]) i->wpAny G.mo A (getMethod g name k) j E i)/\wpAny G.mo A (callWith pos (.ref f) [g] (backTo pos (starEach args env)) []) Q E i) E s):
  wpAny G.mo A (eval (.Call (.Attribute o name apos) args [] pos) env) Q E s:=by
 rw[arm_eval_Call,a];refine wpAny_bind (wpAny_mono h (λg i l=>?_) λ_ _ e=>e);refine aQ (l) λf m p=>wpAny_bind (wpAny_standAt ?_);have q:methodCallForm (args.length+([]:List Keyword).length) (backTo pos (starEach args env)) (backToKw pos (keywordEach [] env))=true:=c;have d:methodCallPos true o env apos pos=pure pos:=by unfold methodCallPos;simp[b]
 unfold methodCall;refine q▸wpAny_bind (wpAny_holding (m _ _ ?_));exact wpAny_bind (wpAny_of_eq d p)
def Ps(K:cP G)(F:jb G)(Y:Ao A n)(C:k8 G n)(nt:G.P.fC (f+1)≠2)(hO:a9 G n A N env a o)(hE:gB G n A N env es args)(hx:G.fN f=x)(hg:G.fq f=false)(hb:attributeBase o x env (eval o env)=eval o env)(g:(ap.endLine==p.line)=true)(R:(args=[]/\es=.nil)∨∃k j,args=[k,j]/\starEach [k,j] env=(false,eval k env)::starEach [j] env/\starEach [j] env=[(false,eval j env)]):a9 G n A N env (.cQ f a es) (.Call (.Attribute o x ap) args [] p):=λs J U L Q E X S h=>by
 subst hx
 have l:((backTo p (starEach args env)).all (λx=>!x.1)&&(backToKw p (keywordEach [] env)).all (λx=>x.1.isSome)
   &&decide (args.length+([]:List Keyword).length+(if([]:List Keyword).isEmpty then 0 else 1)<30))=true:=by
  rcases R with ⟨rfl,_⟩|⟨k,j,rfl,q,T⟩
  ·rfl
  ·(refine q▸?_;refine T▸?_);rfl
 refine DO hb l g (hO.then X S h λv Z tk aL aw u bu d st r h1=>?_);refine bB λXx aH=>bl (aR.bind h1) λpr bP e1 B=>fY (tm e1) λi c aW D e2 e3=>?_;clear e1;(clear h1;subst aW);subst D;refine bl (aR.bind B) λus eE e4 h3=>fD (PV.some h3) λw iJ e5=>bl (vm e5) λfn m hf _=>gi (K.tell) λmg NA mN _ _ z=>?_;obtain⟨t1,⟨ob,t2,t3⟩,t4,t5⟩:=z.meths f fn hf hg;refine Av (aI.self (s:={s with heap:=Z,toks:=tk}) d e2 e3 r) λy dx t D hi hd hy I=>?_;subst D;obtain⟨nm,q,bs,sn,sub,col,dd,k0,k1,k2,k3,k5,hC⟩:=z.cls.obj;refine bl (F f fn hf) λo' fd ho e=>aH (#[G.fA f,λpl Q' hq=>?_,?_])
 ·exact method_of (d.base _ _ hC) (z.cls.ns.keeps d.base) z.q2 z.q3 t1 (d.base _ _ t2) t3 t4 I (by unfold jJ;(refine(if_neg t5)▸?_;with_reducible rfl)) hq
 ·have fin:wpAny G.mo A (spliced (backTo p (starEach args env))) (λvs bE=>(∀b o,G.hb.get? b=some o->bE.heap.get? b=some o)/\wpAny G.mo A (call (.ref (G.fA f)) ([.ref y]++vs)) Q E bE) E {s with heap:=Z,toks:=tk}:=
   hE.then bu d B λvs bt cJ eh uf us' dH bY cK rs h4=>#[bY.base,C A Y f nt _ _ _ eh uf Q E bY (.cons (r.step cK d) rs) h4]
  rcases R with ⟨rfl,rfl⟩|⟨k,j,rfl,q,T⟩
  ·exact callWith_meth0 e (d.base _ _ ho) (C A Y f nt _ _ _ aL bP Q E d (.cons r .nil) B)
  ·exact callWith_meth e ho fin q
def zM:typeLookup (.type "object") "many"=pure none:=by rw[typeLookup_type,builtinLookup_eq_fast];kernel_rfl
def Pt(K:cP G)(j:a9 G n A N env a (.Name y py)):a9 G n A N env (.attr a "many") (.Attribute (.Name y py) "many" p):=λs J U L Q E X S h=>by
 refine Attribute_Name_ (j.then X S h λv k l F P u R b st r f=>?_);refine bB λT m=>bl (aR.bind f) λY Z g o=>fY (tm g) λi c w e z B=>?_;clear g;(clear f;subst w);subst e;refine gi (K.tell) λmg NA mN _ _ d=>Av (aI.self (s:={s with heap:=k,toks:=l}) b z B r) λx dx t e hi hd _ I=>?_;clear r;subst e;obtain⟨nm,q,bs,sn,sub,C,dd,k0,k1,k2,k3,k5,D⟩:=d.cls.obj;refine m ?_;exact load_attr (b.base _ _ D) (d.cls.ns.keeps b.base) d.q2 d.q4 zM I (by unfold jJ;rw[if_pos rfl]) rfl (aR.here o b (.int _ _))
def Within.many(v:Value):PySem.Within (jJ v) ["many"]:=λy h=>by
 unfold jJ at h
 by_cases e:y="many"
 ·simp[e]
 ·(replace h:=(if_neg e)▸h);exact absurd rfl h
def LM(K:cP G)(S:aI G J U s.heap)(T:Rel G J s.heap o uo)(re:Rel G J s.heap e ue)(h:PU G (vI uo ue U) J s Q):wpAny G.mo A (setAttr o "many" e) Q E s:=by
 refine bB λXx v=>bl (aR.bind h) λpr bP X h2=>fY (tm X) λi c aW eH e2 e3=>?_;clear X;(clear h;subst aW);subst eH;refine bl (aR.bind h2) λm eE Y h3=>?_;have zz:=j5 Y;clear Y;obtain⟨rfl,rfl⟩:=zz;refine gi (K.tell) λmg NA mN _ _ l=>?_;have zz:=S.self e2 e3 T;clear T;obtain⟨x,w,t,rfl,Z,hd,⟨B,p,q1,q2,q3,q4⟩,I⟩:=zz;obtain⟨nm,q,bs,sn,sub,col,dd,k0,k1,k2,k3,k5,hC⟩:=l.cls.obj;refine v ?_;cases re with
|int _ t'=>
  have g:x≠G.cA 0:=λz=>by
   have:=S.new x (List.mem_of_getElem? Z);(replace this:=hC▸(z▸this));exact ez this
  refine store_attr PySem.F.store_object (S.base _ _ hC) (l.cls.ns.keeps S.base) l.q1 l.q4 zM g I (λC fP I' hk a=>?_) (Within.many _) ∅;refine bB λXx v=>qe (a B p) λsx j c1 c2 c3 c4=>?_;have D:sx=B:=by
   have Ju:=c4 w q3;(clear c4 q2 q1 p;cases B);cases sx;simp only at c1 c2 c3 Ju q3;subst c1 c2 c3 Ju q3;rfl
  clear c4 c3 c2 c1 q2 q1;subst D;have k:∀b o,b≠w->s.heap.get? b=some o->C.get? b=some o:=λb o hb e=>by
   by_cases z:b=x
   ·(clear hb a hk I' g q4 I Z;subst z);(replace e:=p▸e);(apply fg e);exact j
   ·exact hk b o z (λUy d' r u=>by(replace r:=p▸r);(refine d7 r λf=>?_;(clear r;subst f));(replace u:=q3▸u);(refine d7 u λf=>?_;(clear hd u;subst f));exact hb) e
  have L:C.Ns1 w (jJ (.int m t')):=by
   refine oE (I') λVq z1 _ _ d=>?_;(replace z1:=j▸z1);(refine d7 z1 λf=>?_;(clear z1;subst f));rcases d with ⟨d,_⟩|⟨d',d,_,R⟩
   ·(replace d:=q3▸d);exact ez d
   ·(replace d:=q3▸d);(refine d7 d λf=>?_;(clear k q3 q4;subst f));have:(λy=>if y=("many":Str) then some (Value.int m t') else jJ (.int pr.2 t) y)=jJ (.int m t'):=by
     funext y;unfold jJ;split<;>rfl
    (replace R:=this▸R);exact R
  exact aX (S.turn hd k (o:=.dM m) #[t',L]) λS' st=>v (h3 Unit.unit C fP J st S' trivial)
def Pu(K:cP G)(d:a9 G n A N env e e')(f:a9 G n A N env o o')(g:swapsWith e' (some (.Attribute o' "many" p')) p.line env=pure false):
  dU G n A N env (.jQ o "many" e) (.Assign [.Attribute o' "many" p'] e' p):=λs J U L Q E X S h=>
 plainObj_wpAny_Assign_Attribute (d.gI X S h λv x y z B u i b st r j=>f.gI i b j λC D F I P R k c l m a=>
  LM K c m (r.step l b) (PS.unit a k c λT Y Z iJ q t w=>w.cG q t .next)) g
def Mu:attributeBase (.Call (.Name "Teller" p') [] [] p) name env whole=whole:=by
 show(do return ←whole)=whole
 rfl
def Rx(K:cP G)(Y:Ao A n)(hk:env.kindOf "Teller"=some .globalImplicit):a9 G n A N env (.new c) (.Call (.Name "Teller" p') [] [] p):=λs J U L Q E X S h=>by
 refine bB λXx aH=>gi (K.tell) λmg NA mN h1 h2 u=>?_;obtain⟨nm,q,bs,sn,sub,col,dd,k0,k1,k2,k3,k5,hC⟩:=u.cls.obj;obtain⟨fI,oI,fd,self,p1,p2,p3,p4,k,i1,i2,i3,i4,i5,i6,i7,i8,i9,Vr,Vs,B,Vt⟩:=u.Jl;refine aH (wpAny_Call_NameR (wpAny_Name ?_ (by decide+kernel)));refine(loadName_read X.kind hk)▸Calls.loadGlobal_global (by(refine(X.glob)▸?_);exact h1.keeps S.base) h2 ?_;refine callWith_cls0 u.cls S.base ?_;obtain⟨hh,g,d,t,os⟩:=s;refine wpAny_call_obj_init PySem.F.objNew (S.base _ _ hC) (u.cls.ns.keeps S.base) i1 (S.base _ _ i2) i3 λh' x v a=>?_;have C:∀b o,G.hb.get? b=some o->h'.get? b=some o:=λb o e=>a.keeps _ _ (S.base _ _ e);refine wpAny_call (codeAny_call_cells ?_ (C _ _ i2) i4 (K.nolimit.keeps C) (i5.keeps C) i6 (i7 _) i8 (λy hy=>?_) (λbE I=>?_) Vr Vs B)
 ·have:=Y.room;have:=Y.units;show A.depth+1<recursionLimit
  lia
 ·simp at hy;subst hy;exact .inl i9
 ·refine fD (I.toInCall.same) λaC fT aW=>?_;subst aW;have D:=I.toInCall.keep;have f:(callEnvC fd h'.objs.size fI).kindOf self=some .local:=i9;refine wpAny_execs_cons (plainObj_wpAny_Assign_Attribute (wpAny_Constant_int ?_));have hv:bindL (callEnvC fd h'.objs.size fI).kindOf [(self,Value.ref x)] (λ_=>none) self=some (.ref x):=by
   simp only[bindL,f,if_true]
  refine wpAny_Name (wpAny_loadName_local B f I.toInCall.ns hv ?_) Vt;have A6:aC.Inst x (G.cA 0) λ_=>none:=a.inst.keeps D;have R:x≠G.cA 0:=λz=>by
   have:=a.newX;(replace this:=(S.base _ _ hC)▸(z▸this));exact ez this
  refine store_attr PySem.F.store_object (D _ _ (C _ _ hC)) (u.cls.ns.keeps λb o e=>D _ _ (C _ _ e)) u.q1 u.q4 zM R A6 (λbt cJ It hG i=>?_) Within.nil ∅;refine wpAny_execs_nil #[rfl,?_];refine bB λXx aH=>oE (id A6) λob w c1 c2 _=>?_;have l:ob.dict=some v:=by
   refine aQ (id a.inst) λsx T _=>?_;have:=D _ _ T;(replace this:=w▸this);(refine d7 this λm=>?_;(clear c2 c1 w;subst m));exact a.dict _ T
  refine qe (i ob w) λTs xu d1 d2 d3 d4=>?_;have Z:=d4 v l;have j:bt.Ns1 v (jJ (.int 0 fT))/\v≠x:=by
   refine oE (It) λVq z1 _ _ r=>?_;(replace z1:=xu▸z1);(refine d7 z1 λm=>?_;(clear d1 xu;subst m));rcases r with ⟨r,_⟩|⟨d',r,z4,z3⟩
   ·(replace r:=Z▸r);exact ez r
   ·(replace r:=Z▸r);(refine d7 r λm=>?_;(clear Z l a;subst m));exact#[z3,z4]
  have FQ:∀b o,hh.get? b=some o->bt.get? b=some o:=λb o e=>by
   refine hG b o (λz=>?_) (λUy d' jo ed z=>?_) (D _ _ (a.keeps _ _ e))
   ·(replace e:=(a.newX)▸(z▸e));exact bR e
   ·(replace jo:=w▸jo);(refine d7 jo λm=>?_;(clear c2 c1 w;subst m));(replace ed:=l▸ed);(refine d7 ed λm=>?_;(clear j Z l;subst m));(replace e:=(a.newD)▸(z▸e));exact bR e
  refine g8 (aI.alloc S FQ a.newD (o:=.dM 0) #[fT,j.1]) λbY cK Ht=>?_;have hxn:x∉J++[v]:=λz=>by
   rcases List.mem_append.mp z with z|z
   ·refine aQ (S.mem z) λ_ e _=>?_;have:=a.newX;rw[show hh.get? x=_ from e] at this;exact ez this
   ·simp at z;exact j.2 z.symm
  have hbn:G.hb.get? x=none:=by
   cases e:G.hb.get? x with
   |none=>rfl
   |some o=>have:=S.base _ _ e;rw[show hh.get? x=none from a.newX] at this;exact bR this
  refine aX (bY.adopt hxn hbn (o:=.inst c U.length) #[v,Ts,by rw[List.getElem?_append_left (List.getElem?_eq_some_iff.mp Ht).1];exact Ht,xu,d1.trans c1,λc=>by(refine d2▸?_);exact c2 c,Z,j.2]) λdI Hu=>aH ?_;refine h (.ref x) bt cJ _ #[#[[v,x],by simp],λb hb=>?_,λb o e _=>FQ b o e] dI (.ref Hu);rcases List.mem_append.mp hb with z|z
  ·exact cK.fresh b z
  ·simp at z;(clear hb Hu dI hbn hxn j xu w aH i hG It R A6 hv I;subst z);exact .inr a.newX
end
end Qh
namespace Qh
open PySem PySem.W PyProof.Rows
section
variable{G:Gd}{n:Nat}{A:Around}{N:List Str}{env:Env}
def NK{f:Nat}{x:Str}{a:Qh.E}{es:EL}{o d b:au}{ap p:Pos}{fn:Fn}(K:cP G)(T:jb G)(Y:Ao A n)(C:qi G n)(xf:G.xf f)(Z:a9 G n A N env a o)(Vu:eP G n A N env a o)(hE:gB G n A N env es [d,b])(hX:mE G n A N env es [d,b])(w:G.P.fns f=some fn)(hx:G.fN f=x)(hg:G.fq f=false)(hb:attributeBase o x env (eval o env)=eval o env)(e:(ap.endLine==p.line)=true)(q:starEach [d,b] env=(false,eval d env)::starEach [b] env)(q':starEach [b] env=[(false,eval b env)]):eP G n A N env (.cQ f a es) (.Call (.Attribute o x ap) [d,b] [] p):=λs J U L ah fe g Lf Q E X S F ev px=>by
 subst hx
 have j:((backTo p (starEach [d,b] env)).all (λx=>!x.1)&&(backToKw p (keywordEach [] env)).all (λx=>x.1.isSome)
   &&decide ([d,b].length+([]:List Keyword).length+(if([]:List Keyword).isEmpty then 0 else 1)<30))=true:=by(refine q▸?_;refine q'▸?_);rfl
 refine DO hb j e (oJ Z Vu X S F ev px λv aC tk aL aw u bu h st fJ r B gP=>?_);rcases j6 B with z|⟨pr,bP,D,e2⟩
 ·exact no .iH z
 refine bB λXx aH=>fY (tm D) λi c aW m g2 g3=>?_;clear D;(clear B;subst aW);subst m;refine gi (K.tell) λmg NA mN _ _ k=>?_;obtain⟨t1,⟨ob,t2,t3⟩,t4,t5⟩:=k.meths f fn w hg;refine Av (aI.self (s:={s with heap:=aC,toks:=tk}) h g2 g3 r) λy dx t m hi hd hy I=>?_;subst m;obtain⟨nm,q0,bs,sn,sub,col,dd,k0,k1,k2,k3,k5,hC⟩:=k.cls.obj;refine bl (T f fn w) λo' fd ho l=>aH (#[G.fA f,λpl Q' hq=>?_,?_])
 ·exact method_of (h.base _ _ hC) (k.cls.ns.keeps h.base) k.q2 k.q3 t1 (h.base _ _ t2) t3 t4 I (by unfold jJ;(refine(if_neg t5)▸?_;with_reducible rfl)) hq
 ·exact callWith_meth l ho (tS hE hX bu h fJ e2 gP λvs bt cJ eh uf us dH R cK lu rs e3 xI=>#[R.base,C A Y fe g Lf env f xf _ _ _ eh uf ah Q E R (.cons (r.step cK h) rs) lu e3 xI]) q
end
end Qh
set_option tactic.hygienic true
namespace Qh
open PySem PyProof.Rows
structure fV where
 fN:Nat->Str
 fq:Nat->Bool
 gN:Nat->Str
 io:Nat->Nat
abbrev Gd.aE(G:Gd):fV:=#[G.fN,G.fq,G.gN,G.P.fC]
abbrev fV.nt(T:fV)(f:Nat):Bool:=!decide (T.io (f+1)=2)
@[reducible]def Kn:=List (Str×NameKind)
abbrev fu(K:Kn)(x:Str):Bool:=decide (K.lookup x=some .globalImplicit)
abbrev fw(K:Kn)(x:Str):Bool:=decide (K.lookup x=some .local)||decide (K.lookup x=some .cell)
abbrev kz(x:Str):Bool:=!(x==("__debug__":Str))
abbrev du:au->Bool
|.Starred ..=>false
|_=>true
abbrev vP:au->Bool
|.Slice ..=>false
|_=>true
abbrev ku:au->Bool
|.ListComp ..=>false
|.SetComp ..=>false
|.DictComp ..=>false
|_=>true
abbrev isNone:E->Bool
|.none=>true
|_=>false
abbrev p7:EL->Bool
|.nil=>true
|.cons _ _=>false
abbrev rG:E->Bool
|.comp ..=>true
|.fX ..=>true
|.fZ ..=>true
|_=>false
abbrev gv(K:Kn)(names:Kn):Kn:=names.map λ(n,k)=>if(k==NameKind.free&&K.lookup n==some .cell) then(n,.cell) else(n,k)
abbrev pX(N:List Str)(K:Kn)(scope:Scope)(x:Str)(v:Nat)(br:List Nat):Bool:=
 decide (scope.kind=.function)&&scope.names.all (λy=>decide (y.2≠.cell))&&scope.names.all (λy=>decide (y.2≠.local)||decide (scope.names.lookup y.1=some .local))&&decide (scope.names.lookup x=some .local)&&decide (N[v]?=some x)
  &&scope.names.all (λy=>decide (y.2≠.free)||decide (K.lookup y.1=some .cell))&&br.all (λi=>match N[i]? with|some y=>decide ((gv K scope.names).lookup y=some .cell)|none=>true)
abbrev blt(K:Kn)(x y:Str):Bool:=decide (x=y)&&fu K x
abbrev mO:List Type->Nat->Type
|[],_=>Unit
|t::_,0=>t
|_::r,n+1=>mO r n
structure Wf(L:List Type)(I:(n:Nat)->mO L n->Prop) where
 n:Nat
 x:mO L n
 is:I n x
abbrev sel{L:List Type}{I:(n:Nat)->mO L n->Prop}(w:Wf L I)(n:Nat):Option (mO L n):=if h:w.n=n then some (h▸w.x) else none
def eW{L:List Type}{I:(n:Nat)->mO L n->Prop}{w:Wf L I}{n:Nat}{x:mO L n}(h:sel w n=some x):I n x:=by
 obtain⟨m,y,i⟩:=w
 by_cases q:m=n
 ·subst q;have h:sel #[m,y,i] m=some y:=dif_pos rfl
  rename_i h0;rw[h] at h0;exact Option.some.inj h0▸i
 ·exact bR ((dif_neg q).symm.trans h)
structure Cp where
 elt:au
 x:Str
 iter:au
 ifs:List au
 scope:Scope
structure Mt where
 o:au
 m:Str
 ap:Pos
 p:Pos
 args:List au
abbrev EP:List Type:=[Const,Str,List au,List au,List (Option au)×List au,Operator×au×au,UnaryOp×au,CmpOp×au×au,BoolOp×List au,
 au×Option au×Option au,au×au,Str×List au×List Keyword,Mt,au×Str,Int×Cp,(CmpOp×CmpOp)×au×au×au]
abbrev EI(e:au):(n:Nat)->mO EP n->Prop
|0=>λ(c:Const)=>∃k p,e=.Constant c k p
|1=>λ(x:Str)=>∃p,e=.Name x p
|2=>λ(l:List au)=>∃k p,e=.Tuple l k p
|3=>λ(l:List au)=>∃p,e=.List l p
|4=>λ(x:List (Option au)×List au)=>∃p,e=.Dict x.1 x.2 p
|5=>λ(x:Operator×au×au)=>∃p,e=.BinOp x.2.1 x.1 x.2.2 p
|6=>λ(x:UnaryOp×au)=>∃p,e=.UnaryOp x.1 x.2 p
|7=>λ(x:CmpOp×au×au)=>∃p,e=.Compare x.2.1 [x.1] [x.2.2] p
|8=>λ(x:BoolOp×List au)=>∃p,e=.BoolOp x.1 x.2 p
|9=>λ(x:au×Option au×Option au)=>∃p' p,e=.Subscript x.1 (.Slice x.2.1 x.2.2 none p') p
|10=>λ(x:au×au)=>∃p,e=.Subscript x.1 x.2 p/\vP x.2=true
|11=>λ(x:Str×List au×List Keyword)=>∃p' p,e=.Call (.Name x.1 p') x.2.1 x.2.2 p
|12=>λ(x:Mt)=>e=.Call (.Attribute x.o x.m x.ap) x.args [] x.p
|13=>λ(x:au×Str)=>∃p,e=.Attribute x.1 x.2 p
|14=>λ(x:Int×Cp)=>∃px p,e=.ListComp x.2.elt [#[.Name x.2.x px,x.2.iter,x.2.ifs,x.1]] x.2.scope p
|15=>λ(x:(CmpOp×CmpOp)×au×au×au)=>∃p,e=.Compare x.2.1 [x.1.1,x.1.2] [x.2.2.1,x.2.2.2] p
|_=>λ_=>True
abbrev view(e:au):Wf EP (EI e):=match e with
|.Constant c _ _=>#[0,c,_,_,rfl]
|.Name x _=>#[1,x,_,rfl]
|.Tuple l _ _=>#[2,l,_,_,rfl]
|.List l _=>#[3,l,_,rfl]
|.Dict ks vs _=>#[4,(ks,vs),_,rfl]
|.BinOp l op r _=>#[5,(op,l,r),_,rfl]
|.UnaryOp op l _=>#[6,(op,l),_,rfl]
|.Compare l [op] [r] _=>#[7,(op,l,r),_,rfl]
|.Compare l [op,a] [r,d] _=>#[15,((op,a),l,r,d),_,rfl]
|.BoolOp op l _=>#[8,(op,l),_,rfl]
|.Subscript l (.Slice lo f none _) _=>#[9,(l,lo,f),_,_,rfl]
|.Subscript l r _=>if h:vP r=true then#[10,(l,r),_,rfl,h] else#[16,Unit.unit,trivial]
|.Call (.Name x _) args b _=>#[11,(x,args,b),_,_,rfl]
|.Call (.Attribute o m ap) args [] p=>#[12,(#[o,m,ap,p,args]:Mt),rfl]
|.Attribute o x _=>#[13,(o,x),_,rfl]
|.ListComp elt [#[.Name x _,iter,ifs,z]] scope _=>#[14,(z,(#[elt,x,iter,ifs,scope]:Cp)),_,_,rfl]
|_=>#[16,Unit.unit,trivial]
def Vv{α:Type}{x:α}{P:Prop}(h:none=some x):P:=bR h
abbrev one:List au->Option au
|[e]=>some e
|_=>none
abbrev two:List au->Option (au×au)
|[e,e']=>some (e,e')
|_=>none
def rN{l:List au}{e:au}(h:one l=some e):l=[e]:=by
 match l with
|[x]=>(apply fg h);rfl
|[]=>exact bR h
|_::_::_=>exact bR h
def Ac{l:List au}{p:au×au}(h:two l=some p):l=[p.1,p.2]:=by
 match l with
|[x,y]=>(apply fg h);rfl
|[]=>exact bR h
|[_]=>exact bR h
|_::_::_::_=>exact bR h
def bind_some{α c:Type}{o:Option α}{f:α->Option c}{b:c}(h:o.bind f=some b):∃a,o=some a/\f a=some b:=by
 cases o with
|none=>exact bR h
|some a=>exact#[a,rfl,h]
def map_some{α c:Type}{o:Option α}{f:α->c}{b:c}(h:o.map f=some b):∃a,o=some a/\f a=b:=by
 cases o with
|none=>exact bR h
|some a=>(apply fg h);exact#[a,rfl,rfl]
abbrev when{α:Type}(c:Bool)(o:Option α):Option α:=bif c then o else none
def sW{α:Type}{c:Bool}{o:Option α}{a:α}(h:when c o=some a):c=true/\o=some a:=by
 cases c with
|false=>exact bR h
|true=>exact#[rfl,h]
abbrev w4(l:List au):Bool:=match l with
|e::_=>du e
|[]=>false
abbrev iK(e:au):Option (Const):=sel (view e) 0
def rq{e:au}{x:Const}(h:iK e=some x):∃k p,e=.Constant x k p:=eW h
abbrev nameOf(e:au):Option (Str):=sel (view e) 1
def nQ{e:au}{x:Str}(h:nameOf e=some x):∃p,e=.Name x p:=eW h
abbrev uB(e:au):Option (List au):=sel (view e) 2
def Pw{e:au}{x:List au}(h:uB e=some x):∃k p,e=.Tuple x k p:=eW h
abbrev A7(e:au):Option (List au):=sel (view e) 3
def Px{e:au}{x:List au}(h:A7 e=some x):∃p,e=.List x p:=eW h
abbrev A8(e:au):Option (Operator×au×au):=sel (view e) 5
def Py{e:au}{x:Operator×au×au}(h:A8 e=some x):∃p,e=.BinOp x.2.1 x.1 x.2.2 p:=eW h
abbrev uU(e:au):Option (UnaryOp×au):=sel (view e) 6
def Ry{e:au}{x:UnaryOp×au}(h:uU e=some x):∃p,e=.UnaryOp x.1 x.2 p:=eW h
abbrev xM(e:au):Option (CmpOp×au×au):=sel (view e) 7
def Pz{e:au}{x:CmpOp×au×au}(h:xM e=some x):∃p,e=.Compare x.2.1 [x.1] [x.2.2] p:=eW h
abbrev AJ(e:au):Option ((CmpOp×CmpOp)×au×au×au):=sel (view e) 15
def NL{e:au}{x:(CmpOp×CmpOp)×au×au×au}(h:AJ e=some x):∃p,e=.Compare x.2.1 [x.1.1,x.1.2] [x.2.2.1,x.2.2.2] p:=eW h
abbrev vBool(e:au):Option (BoolOp×List au):=sel (view e) 8
def NM{e:au}{x:BoolOp×List au}(h:vBool e=some x):∃p,e=.BoolOp x.1 x.2 p:=eW h
abbrev mP(e:au):Option (au×au):=sel (view e) 10
def FR{e:au}{x:au×au}(h:mP e=some x):∃p,e=.Subscript x.1 x.2 p/\vP x.2=true:=eW h
abbrev A9(e:au):Option (au×Option au×Option au):=sel (view e) 9
def PA{e:au}{x:au×Option au×Option au}(h:A9 e=some x):∃p' p,e=.Subscript x.1 (.Slice x.2.1 x.2.2 none p') p:=eW h
abbrev Ad(e:au):Option (Str×List au×List Keyword):=sel (view e) 11
def DP{e:au}{x:Str×List au×List Keyword}(h:Ad e=some x):∃p' p,e=.Call (.Name x.1 p') x.2.1 x.2.2 p:=eW h
abbrev ug(e:au):Option (Mt):=sel (view e) 12
def zg{e:au}{x:Mt}(h:ug e=some x):e=.Call (.Attribute x.o x.m x.ap) x.args [] x.p:=eW h
abbrev qj(e:au):Option (au×Str):=sel (view e) 13
def zh{e:au}{x:au×Str}(h:qj e=some x):∃p,e=.Attribute x.1 x.2 p:=eW h
abbrev AK(e:au):Option (List (Option au)×List au):=sel (view e) 4
def NO{e:au}{x:List (Option au)×List au}(h:AK e=some x):∃p,e=.Dict x.1 x.2 p:=eW h
abbrev Iu(e:au):Option (Int×Cp):=sel (view e) 14
def PC{e:au}{x:Int×Cp}(h:Iu e=some x):∃px p,e=.ListComp x.2.elt [#[.Name x.2.x px,x.2.iter,x.2.ifs,x.1]] x.2.scope p:=eW h
abbrev oM(e:au):Option (Str×List au):=(Ad e).bind λy=>when y.2.2.isEmpty (some (y.1,y.2.1))
def vQ{e:au}{x:Str×List au}(h:oM e=some x):∃p' p,e=.Call (.Name x.1 p') x.2 [] p:=by
 refine bB λj c=>?_;obtain⟨⟨f,a,k⟩,b,d⟩:=bind_some h;refine aX (sW d) λg i=>?_;replace b:=DP b;obtain⟨p',p,rfl⟩:=b;refine c ?_;(apply fg i)
 (refine(List.isEmpty_iff.mp g)▸?_);exact#[_,_,rfl]
abbrev rY(e:au):Option Cp:=(Iu e).bind λy=>when (decide (y.1=0)) (some y.2)
def EO{e:au}{x:Cp}(h:rY e=some x):∃px p,e=.ListComp x.elt [#[.Name x.x px,x.iter,x.ifs,0]] x.scope p:=by
 refine bB λi b=>?_;obtain⟨⟨z,c⟩,a,d⟩:=bind_some h;refine aX (sW d) λf g=>?_;replace a:=PC a;obtain⟨px,p,rfl⟩:=a;refine b ?_;(apply fg g)
 (refine(of_decide_eq_true f)▸?_);exact#[_,_,rfl]
abbrev gJ(e:au):Option (Str×au):=(oM e).bind λy=>(one y.2).map λa=>(y.1,a)
abbrev call2(e:au):Option (Str×au×au):=(oM e).bind λy=>(two y.2).map λa=>(y.1,a)
def ER{e a:au}{x:Str}(h:gJ e=some (x,a)):∃p' p,e=.Call (.Name x p') [a] [] p:=by
 obtain⟨⟨f,l⟩,c,d⟩:=bind_some h;obtain⟨b,g,i⟩:=map_some d;replace c:=vQ c;obtain⟨p',p,rfl⟩:=c;cases i
 (refine(rN g)▸?_);exact#[_,_,rfl]
def ES{e a b:au}{x:Str}(h:call2 e=some (x,a,b)):∃p' p,e=.Call (.Name x p') [a,b] [] p:=by
 obtain⟨⟨f,l⟩,d,g⟩:=bind_some h;obtain⟨c,i,j⟩:=map_some g;replace d:=vQ d;obtain⟨p',p,rfl⟩:=d;cases j
 (refine(Ac i)▸?_);exact#[_,_,rfl]
abbrev Jv:List Keyword->Bool
|[k]=>decide (k.arg=some "default")&&decide (iK k.value=some (.int 0))
|_=>false
def Rz{l:List Keyword}(h:Jv l=true):∃k p b,l=[#[some "default",.Constant (.int 0) k p,b]]:=by
 match l with
|[#[a,v,b]]=>
  have h:(decide (a=some "default")&&decide (iK v=some (.int 0)))=true:=h;rw[Bool.and_eq_true] at h;obtain rfl:a=_:=of_decide_eq_true h.1;refine fD (rq (of_decide_eq_true h.2)) λk p c=>?_;(clear h;(clear h;subst c));exact#[_,_,_,rfl]
|[]=>exact ff h
|_::_::_=>exact ff h
abbrev AL(e:au):Option au:=(Ad e).bind λy=>when (decide (y.1="max")&&Jv y.2.2) (one y.2.1)
def NP{e a:au}(h:AL e=some a):∃p' p k b g,e=.Call (.Name "max" p') [a] [#[some "default",.Constant (.int 0) k b,g]] p:=by obtain⟨⟨f,l,k⟩,c,i⟩:=bind_some h;refine aX (sW i) λd j=>?_;rw[Bool.and_eq_true] at d;replace c:=DP c;obtain⟨p',p,rfl⟩:=c;refine ll (Rz d.2) λq1 q2 q3 m=>?_;have n:f="max":=of_decide_eq_true d.1;have o:l=[a]:=rN j;subst (m) n o;exact#[_,_,_,_,_,rfl]
abbrev uh(e:au):Option (Str×au×au):=(ug e).bind λy=>when (gW y.o&&(y.ap.endLine==y.p.line)) ((one y.args).map λa=>(y.m,y.o,a))
def NQ{e o a:au}{m:Str}(h:uh e=some (m,o,a)):∃ap p,e=.Call (.Attribute o m ap) [a] [] p/\gW o=true/\(ap.endLine==p.line)=true:=by obtain⟨⟨n,m',ap,p,args⟩,d,f⟩:=bind_some h;refine aX (sW f) λc g=>?_;obtain⟨b,i,j⟩:=map_some g;rw[Bool.and_eq_true] at c;have k:=zg d;cases j;have l:args=[a]:=rN i;clear i g f h d;subst l;exact#[_,_,k,c.1,c.2]
def cW{α:Type}{o:Option α}{f:α->Bool}(h:o.any f=true):∃x,o=some x/\f x=true:=by
 cases o with
|none=>exact ff h
|some x=>exact#[x,rfl,h]
abbrev AM(e:au):Option (Str×au×au×au):=(ug e).bind λy=>when (gW y.o&&(y.ap.endLine==y.p.line)) ((two y.args).map λa=>(y.m,y.o,a))
def NR{e o a b:au}{m:Str}(h:AM e=some (m,o,a,b)):∃ap p,e=.Call (.Attribute o m ap) [a,b] [] p/\gW o=true/\(ap.endLine==p.line)=true:=by obtain⟨⟨q,m',ap,p,args⟩,f,g⟩:=bind_some h;refine aX (sW g) λd i=>?_;obtain⟨c,j,k⟩:=map_some i;rw[Bool.and_eq_true] at d;have l:=zg f;cases k;have n:args=[a,b]:=Ac j;clear j i g h f;subst n;exact#[_,_,l,d.1,d.2]
abbrev Ba:E->Option Int
|.int i=>some i
|_=>none
def PE{e:E}{i:Int}(h:Ba e=some i):e=.int i:=by
 cases e with
|int j=>(apply fg h);rfl
|_=>exact Vv h
abbrev uC:List Str->EL->List (Option au)->List au->Bool
|[],es,ks,vs=>p7 es&&ks.isEmpty&&vs.isEmpty
|k::ks,es,keys,vs=>match es with
  |.nil=>false
  |.cons e es=>match keys with
   |[]=>false
   |a::keys=>match vs with
    |[]=>false
    |v::vs=>decide (a.bind iK=some (.str k))&&(Ba e).any (λi=>decide (iK v=some (.int i)))&&uC ks es keys vs
def FT:∀{ks:List Str}{es:EL}{keys:List (Option au)}{vs:List au},uC ks es keys vs=true->∃is,DL ks is es keys vs
|[],es,keys,vs,h=>by
  have h:(p7 es&&keys.isEmpty&&vs.isEmpty)=true:=h;rw[Bool.and_eq_true,Bool.and_eq_true] at h;obtain rfl:=List.isEmpty_iff.mp h.1.2;obtain rfl:=List.isEmpty_iff.mp h.2;cases es with
  |nil=>exact#[[],.nil]
  |cons e r=>cases h.1.1
|k::ks,es,keys,vs,h=>by
  cases es with
  |nil=>exact absurd (show false=true from h) cU
  |cons e es=>cases keys with
   |nil=>exact absurd (show false=true from h) cU
   |cons a keys=>cases vs with
    |nil=>exact absurd (show false=true from h) cU
    |cons v vs=>
     have h:(decide (a.bind iK=some (.str k))&&(Ba e).any (λi=>decide (iK v=some (.int i)))&&uC ks es keys vs)=true:=h;rw[Bool.and_eq_true,Bool.and_eq_true] at h;refine bB λm b=>?_;obtain⟨⟨c,f⟩,g⟩:=h;refine aQ (bind_some (of_decide_eq_true c)) λn q1 q2=>aQ (cW f) λi q3 q4=>fD (rq q2) λu p j=>fD (rq (of_decide_eq_true q4)) λo q l=>?_;obtain⟨is,d⟩:=FT g;refine b (q1▸?_);exact j▸l▸(PE q3)▸#[i::is,.cons d]
abbrev w5(o:Option au)(d:Bool)(f:au->Bool):Bool:=match o with|none=>d|some e=>f e
abbrev isNew(e:au):Bool:=(oM e).any λx=>decide (x.1=("Teller":Str))&&x.2.isEmpty
abbrev twoArgs(es:EL)(l:List au):Bool:=(p7 es&&l.isEmpty)||(two l).any λq=>du q.1&&du q.2
mutual
noncomputable def bz(T:fV)(N:List Str):E->Kn->au->Bool
|.none,_,e=>(iK e).any λc=>decide (c=.none)
|.bool b,_,e=>(iK e).any λc=>decide (c=.bool b)
|.int b,_,e=>(iK e).any λc=>decide (c=.int b)
|.str b,_,e=>(iK e).any λc=>decide (c=.str b)
|.aa i,_,e=>(nameOf e).any λx=>decide (N[i]?=some x)&&kz x
|.glob g,K,e=>(nameOf e).any λx=>decide (T.gN g=x)&&fu K x&&kz x
|.ay es,K,e=>(uB e).any λl=>jO T N es K l
|.af es,K,e=>(A7 e).any λl=>jO T N es K l
|.az ks es,_,e=>(AK e).any λx=>(x.1.isEmpty&&x.2.isEmpty&&ks.isEmpty&&p7 es)||(!x.1.isEmpty&&uC ks es x.1 x.2)
|.ak op a b,K,e=>(A8 e).any λx=>decide (x.1=op)&&bz T N a K x.2.1&&bz T N b K x.2.2
|.neg a,K,e=>(uU e).any λx=>decide (x.1=.USub)&&bz T N a K x.2
|.cmp op a b,K,e=>(xM e).any λx=>decide (x.1=op)&&bz T N a K x.2.1&&bz T N b K x.2.2&&!(behindInMarks op x.2.2)
|.jh op d a b c,K,e=>(AJ e).any λx=>decide (x.1=(op,d))&&bz T N a K x.2.1&&bz T N b K x.2.2.1&&bz T N c K x.2.2.2&&!(lastMarks [op,d] [x.2.2.1,x.2.2.2])
|.not a,K,e=>(uU e).any λx=>decide (x.1=.Not)&&bz T N a K x.2
|.and es,K,e=>(vBool e).any λx=>decide (x.1=.And)&&rO T N es K x.2
|.or es,K,e=>(vBool e).any λx=>decide (x.1=.Or)&&rO T N es K x.2
|.aq a i,K,e=>(mP e).any λx=>bz T N a K x.1&&bz T N i K x.2
|.slc a lo h,K,e=>(A9 e).any λx=>bz T N a K x.1&&w5 x.2.1 (isNone lo) (λy=>bz T N lo K y)&&w5 x.2.2 (isNone h) (λy=>bz T N h K y)
|.call f es,K,e=>(oM e).any λx=>jO T N es K x.2&&decide (T.fN f=x.1)&&(T.fq f&&T.nt f)&&fu K x.1&&kz x.1&&w4 x.2
|.cQ f o es,K,e=>(ug e).any λy=>decide (T.fN f=y.m)&&(!T.fq f&&T.nt f)&&(gW y.o||isNew y.o)&&(y.ap.endLine==y.p.line)&&twoArgs es y.args&&bz T N o K y.o&&jO T N es K y.args
|.new _,K,e=>isNew e&&fu K "Teller"
|.attr o x,K,e=>(qj e).any λy=>decide (x=("many":Str))&&decide (y.2=("many":Str))&&(nameOf y.1).isSome&&bz T N o K y.1
|.len a,K,e=>(gJ e).any λx=>blt K x.1 "len"&&du x.2&&bz T N a K x.2
|.toInt a,K,e=>(gJ e).any λx=>blt K x.1 "int"&&du x.2&&bz T N a K x.2
|.toStr a,K,e=>(gJ e).any λx=>blt K x.1 "str"&&du x.2&&bz T N a K x.2
|.sum a,K,e=>(gJ e).any λx=>blt K x.1 "sum"&&du x.2&&bz T N a K x.2
|.list a,K,e=>(gJ e).any λx=>blt K x.1 "list"&&du x.2&&bz T N a K x.2
|.tuple a,K,e=>(gJ e).any λx=>blt K x.1 "tuple"&&du x.2&&bz T N a K x.2
|.dict a,K,e=>(gJ e).any λx=>blt K x.1 "dict"&&du x.2&&bz T N a K x.2
|.max2 a b,K,e=>(call2 e).any λx=>blt K x.1 "max"&&du x.2.1&&du x.2.2&&bz T N a K x.2.1&&bz T N b K x.2.2
|.hY a,K,e=>(AL e).any λx=>blt K "max" "max"&&du x&&bz T N a K x
|.d0 t a,K,e=>(call2 e).any λx=>blt K x.1 "isinstance"&&(nameOf x.2.2).any (λy=>blt K y (Str.ofString t))&&decide (t∈gw)&&du x.2.1&&bz T N a K x.2.1
|.join a b,K,e=>(uh e).any λx=>decide (x.1=("join":Str))&&du x.2.2&&bz T N a K x.2.1&&bz T N b K x.2.2
|.get a b c,K,e=>(AM e).any λx=>decide (x.1=("get":Str))&&du x.2.2.1&&du x.2.2.2&&bz T N a K x.2.1&&bz T N b K x.2.2.1&&bz T N c K x.2.2.2
|.comp elt v br src,K,e=>(rY e).any λx=>x.ifs.isEmpty&&bz T N src K x.iter&&kt x.iter&&pX N K x.scope x.x v br&&bz T N elt (gv K x.scope.names) x.elt
|.fX elt v br src t,K,e=>(rY e).any λx=>(one x.ifs).any (λj=>mQ T N t (gv K x.scope.names) j)&&bz T N src K x.iter&&kt x.iter&&pX N K x.scope x.x v br&&bz T N elt (gv K x.scope.names) x.elt
|.fZ elt v br src,K,e=>(rY e).any λx=>x.ifs.isEmpty&&(gJ x.iter).any (λy=>blt K y.1 "range"&&du y.2&&bz T N src K y.2)&&pX N K x.scope x.x v br&&bz T N elt (gv K x.scope.names) x.elt
noncomputable def jO(T:fV)(N:List Str):EL->Kn->List au->Bool
|.nil,_,l=>l.isEmpty
|.cons x r,K,l=>match l with|e::t=>du e&&bz T N x K e&&jO T N r K t|[]=>false
noncomputable def rO(T:fV)(N:List Str):EL->Kn->List au->Bool
|.nil,_,l=>false
|.cons x r,K,l=>match r with
  |.nil=>(one l).any λe=>bz T N x K e
  |.cons y z=>match l with|e::t=>bz T N x K e&&rO T N r K t|[]=>false
noncomputable def mQ(T:fV)(N:List Str):E->Kn->au->Bool
|.not a,K,e=>(uU e).any λx=>decide (x.1=.Not)&&mQ T N a K x.2
|.and es,K,e=>(vBool e).any λx=>decide (x.1=.And)&&tT T N es K x.2
|.or es,K,e=>(vBool e).any λx=>decide (x.1=.Or)&&tT T N es K x.2
|.cmp op a b,K,e=>(xM e).any λx=>decide (x.1=op)&&bz T N a K x.2.1&&bz T N b K x.2.2&&!(behindInMarks op x.2.2)
|.aa i,_,e=>(nameOf e).any λx=>decide (N[i]?=some x)&&kz x
|.call f es,K,e=>(oM e).any λx=>jO T N es K x.2&&decide (T.fN f=x.1)&&(T.fq f&&T.nt f)&&fu K x.1&&kz x.1&&w4 x.2
|.d0 t a,K,e=>(call2 e).any λx=>blt K x.1 "isinstance"&&(nameOf x.2.2).any (λy=>blt K y (Str.ofString t))&&decide (t∈gw)&&du x.2.1&&bz T N a K x.2.1
|.aq a i,K,e=>(mP e).any λx=>bz T N a K x.1&&bz T N i K x.2
|.none,_,_=>false
|.bool _,_,_=>false
|.int _,_,_=>false
|.str _,_,_=>false
|.glob _,_,_=>false
|.ay _,_,_=>false
|.af _,_,_=>false
|.az _ _,_,_=>false
|.ak _ _ _,_,_=>false
|.neg _,_,_=>false
|.jh _ _ _ _ _,_,_=>false
|.slc _ _ _,_,_=>false
|.cQ _ _ _,_,_=>false
|.new _,_,_=>false
|.attr _ _,_,_=>false
|.len _,_,_=>false
|.toInt _,_,_=>false
|.toStr _,_,_=>false
|.sum _,_,_=>false
|.hY _,_,_=>false
|.max2 _ _,_,_=>false
|.list _,_,_=>false
|.tuple _,_,_=>false
|.dict _,_,_=>false
|.join _ _,_,_=>false
|.get _ _ _,_,_=>false
|.comp _ _ _ _,_,_=>false
|.fX _ _ _ _ _,_,_=>false
|.fZ _ _ _ _,_,_=>false
noncomputable def tT(T:fV)(N:List Str):EL->Kn->List au->Bool
|.nil,_,l=>l.isEmpty
|.cons x r,K,l=>match l with|e::t=>mQ T N x K e&&tT T N r K t|[]=>false
end
abbrev SP:List Type:=[au×au,au,au×List Stmt×List Stmt,au×List Stmt,au×au×List Stmt,Option au,au,List Stmt×ExceptHandler]
abbrev SI(st:Stmt):(n:Nat)->mO SP n->Prop
|0=>λ(x:au×au)=>∃p,st=.Assign [x.1] x.2 p
|1=>λ(x:au)=>∃p,st=.Expr x p
|2=>λ(x:au×List Stmt×List Stmt)=>∃p,st=.If x.1 x.2.1 x.2.2 p
|3=>λ(x:au×List Stmt)=>∃p,st=.While x.1 x.2 [] p
|4=>λ(x:au×au×List Stmt)=>∃p,st=.For x.1 x.2.1 x.2.2 [] p
|5=>λ(x:Option au)=>∃p,st=.Return x p
|6=>λ(x:au)=>∃p,st=.Raise (some x) none p
|7=>λ(x:List Stmt×ExceptHandler)=>∃p,st=.Try x.1 [x.2] [] [] p
|_=>λ_=>True
abbrev qk(st:Stmt):Wf SP (SI st):=match st with
|.Assign [t] e _=>#[0,(t,e),_,rfl]
|.Expr e _=>#[1,e,_,rfl]
|.If c t e _=>#[2,(c,t,e),_,rfl]
|.While c b [] _=>#[3,(c,b),_,rfl]
|.For t iter b [] _=>#[4,(t,iter,b),_,rfl]
|.Return e _=>#[5,e,_,rfl]
|.Raise (some e) none _=>#[6,e,_,rfl]
|.Try b [h] [] [] _=>#[7,(b,h),_,rfl]
|_=>#[8,Unit.unit,trivial]
abbrev oU(st:Stmt):Option (au×au):=sel (qk st) 0
abbrev uD(st:Stmt):Option au:=sel (qk st) 1
abbrev Bb(st:Stmt):Option (au×List Stmt×List Stmt):=sel (qk st) 2
abbrev ya(st:Stmt):Option (au×au×List Stmt):=sel (qk st) 4
abbrev xN(st:Stmt):Option (Option au):=sel (qk st) 5
def FU{st:Stmt}{x:au×au}(h:oU st=some x):∃p,st=.Assign [x.1] x.2 p:=eW h
def PF{st:Stmt}{x:au}(h:uD st=some x):∃p,st=.Expr x p:=eW h
def PG{st:Stmt}{x:au×List Stmt×List Stmt}(h:Bb st=some x):∃p,st=.If x.1 x.2.1 x.2.2 p:=eW h
def RA{st:Stmt}{x:au×au×List Stmt}(h:ya st=some x):∃p,st=.For x.1 x.2.1 x.2.2 [] p:=eW h
def PH{st:Stmt}{x:Option au}(h:xN st=some x):∃p,st=.Return x p:=eW h
abbrev Iv(st:Stmt):Option (List Stmt×ExceptHandler):=sel (qk st) 7
def PI{st:Stmt}{x:List Stmt×ExceptHandler}(h:Iv st=some x):∃p,st=.Try x.1 [x.2] [] [] p:=eW h
abbrev Ae(st:Stmt):Option au:=sel (qk st) 6
def Mv{st:Stmt}{x:au}(h:Ae st=some x):∃p,st=.Raise (some x) none p:=eW h
abbrev RB:Const->Bool
|.str _=>true
|_=>false
abbrev GA(e:au):Bool:=(iK e).any RB
abbrev tgt(N:List Str)(K:Kn)(i:Nat)(t:au):Bool:=(nameOf t).any λy=>decide (N[i]?=some y)&&fw K y
abbrev tgts(N:List Str)(K:Kn):List Nat->List au->Bool
|[],l=>l.isEmpty
|i::is,l=>match l with|t::l=>tgt N K i t&&tgts N K is l|[]=>false
mutual
noncomputable def oV(T:fV)(N:List Str)(K:Kn):S->Stmt->Bool
|.aK i x,st=>(oU st).any λy=>tgt N K i y.1&&bz T N x K y.2&&(ku y.2||rG x)
|.eX o i x,st=>(oU st).any λy=>(mP y.1).any (λz=>bz T N o K z.1&&bz T N i K z.2)&&bz T N x K y.2&&ku y.2
|.append o x,st=>(uD st).any λy=>(uh y).any λz=>decide (z.1=("append":Str))&&du z.2.2&&bz T N o K z.2.1&&bz T N x K z.2.2
|.expr x,st=>(uD st).any λy=>bz T N x K y&&ku y
|.ite c t e,st=>(Bb st).any λy=>mQ T N c K y.1&&gK T N K t y.2.1&&gK T N K e y.2.2
|.sa _ _,_=>false
|.iL i x b,st=>(ya st).any λy=>tgt N K i y.1&&bz T N x K y.2.1&&kt y.2.1&&gK T N K b y.2.2
|.eV i x b,st=>(ya st).any λy=>tgt N K i y.1&&(gJ y.2.1).any (λz=>blt K z.1 "range"&&du z.2&&bz T N x K z.2)&&gK T N K b y.2.2
|.ret x,st=>(xN st).any λy=>y.any λe=>bz T N x K e
|.sb,_=>false
|.ik is x,st=>(oU st).any λy=>(uB y.1).any (λl=>tgts N K is l)&&bz T N x K y.2&&((nameOf y.2).isSome||(mP y.2).isSome)
|.jQ o x e,st=>(oU st).any λy=>(qj y.1).any (λz=>decide (x=("many":Str))&&decide (z.2=("many":Str))&&bz T N o K z.1)&&bz T N e K y.2&&ku y.2
|.update o x,st=>(uD st).any λy=>(uh y).any λz=>decide (z.1=("update":Str))&&du z.2.2&&bz T N o K z.2.1&&bz T N x K z.2.2
|.uv _ _ _ _ _,_=>false
|.raise c _,st=>!decide (c=T.io 0)||(Ae st).any λy=>(gJ y).any λz=>blt K z.1 "TooGreat"&&GA z.2
|.hZ _ _ _,_=>false
noncomputable def gK(T:fV)(N:List Str)(K:Kn):SL->List Stmt->Bool
|.nil,l=>l.isEmpty
|.cons x r,l=>match l with|st::t=>oV T N K x st&&gK T N K r t|[]=>false
end
end Qh
set_option tactic.hygienic false
namespace Qh
open PySem PyProof.Rows
section
variable{G:Gd}{n:Nat}{A:Around}{N:List Str}
structure dT(env:Env)(K:Kn):Prop where
 kind:env.scope.kind=.function
 names:env.scope.names=K
def dT.at{env:Env}{K:Kn}(Z:dT env K)(x:Str):env.kindOf x=K.lookup x:=by unfold Env.kindOf;(refine(Z.names)▸?_;with_reducible rfl)
def dT.fu{env:Env}{K:Kn}(Z:dT env K)(h:fu K x=true):env.kindOf x=some .globalImplicit:=by rw[Z.at];exact of_decide_eq_true h
def dT.fw{env:Env}{K:Kn}(Z:dT env K)(h:fw K x=true):env.kindOf x=some .local∨env.kindOf x=some .cell:=by rw[Z.at];unfold Qh.fw at h;simp only[Bool.or_eq_true,decide_eq_true_eq] at h;exact h
def yU(h:kz x=true):(x==("__debug__":Str))=false:=by unfold kz at h;simpa using h
def ew(h:du e=true):starEach (e::l) env=(false,eval e env)::starEach l env:=by cases e<;>first|rfl|exact ff h
def Af(h:G.aE.nt f=true):G.P.fC (f+1)≠2:=λq=>by
 have h:(!decide (G.P.fC (f+1)=2))=true:=h;(replace h:=q▸h);exact ff h
def not_iff(h:(!b)=true):b=false:=by cases b with|false=>rfl|true=>exact ff h
def Lc(h:vP r=true):∀l u p,r≠.Slice l u none p:=by rintro l u p rfl;exact ff h
def rH{env:Env}{K:Kn}(Z:dT env K)(h:blt K x y=true):x=y/\env.kindOf x=some .globalImplicit:=by unfold blt at h;simp only[Bool.and_eq_true,decide_eq_true_eq] at h;exact#[h.1,Z.fu h.2]
def Dd{env:Env}{K:Kn}{scope:Scope}(Z:dT env K):(relabel scope env).names=gv K scope.names:=by
 unfold relabel gv;apply List.map_congr_left;rintro ⟨n,k⟩ _;have a:(env.scope.kind==ScopeKind.function)=true:=by(refine(Z.kind).symm▸?_);rfl
 simp only[a,Bool.and_true,Z.at]
def De{env:Env}{K:Kn}(Z:dT env K){scope:Scope}(h:pX N K scope x v br=true):gZ N env scope x v br:=by
 unfold pX at h;simp only[Bool.and_eq_true,decide_eq_true_eq,List.all_eq_true,Bool.or_eq_true] at h;refine bB λp b=>?_;obtain⟨⟨⟨⟨⟨⟨c,d⟩,e⟩,f⟩,g⟩,j⟩,k⟩:=h;refine b (#[c,d,λy a l=>?_,f,g,λy a m=>?_,λi o y a=>?_])
 ·rcases e y a with q|q
  ·exact absurd l q
  ·exact q
 ·rcases j y a with q|q
  ·exact absurd m q
  ·rw[Z.at];exact q
 ·have:=k i o;replace this:=a▸this;simp only[decide_eq_true_eq] at this
  (refine(Dd Z)▸?_);exact this
def dT.inner{env:Env}{K:Kn}(Z:dT env K){scope:Scope}(W:gZ N env scope x v br)(cl:List (Str×Addr))(C:Addr):dT (compEnvC scope cl C env) (gv K scope.names):=
 #[W.kind,Dd Z]
def rP(h:t∈gw):(Str.ofString t∈pK)/\bootBuiltins (Str.ofString t)=some (.type t)/\(Str.ofString t==("__debug__":Str))=false:=by
 have:t="int"∨t="bool"∨t="str"∨t="tuple"∨t="list":=by simpa[gw] using h
 rcases this with rfl|rfl|rfl|rfl|rfl
 ·exact#[by decide+kernel,boot_int,by decide+kernel]
 ·exact#[by decide+kernel,boot_bool,by decide+kernel]
 ·exact#[by decide+kernel,boot_str,by decide+kernel]
 ·exact#[by decide+kernel,boot_tuple,by decide+kernel]
 ·exact#[by decide+kernel,boot_list,by decide+kernel]
def NS:bQ (G.ctx n) (.d0 t a) L U=M.bind (aj (G.ctx n) (.d0 t a) L) eg U:=by
 show M.bind (aj (G.ctx n) a L) (λx=>d0 t x) U=M.bind (M.bind (aj (G.ctx n) a L) λx=>M.bind (d0 t x) λb=>M.pure (.bool b)) eg U;unfold M.bind;cases aj (G.ctx n) a L U with
|ok v d=>simp only[];cases d0 t v d<;>rfl
|aF c d=>rfl
|bad=>rfl
def ET(b:isNew e=true):∃p' p,e=.Call (.Name "Teller" p') [] [] p:=by obtain⟨⟨x,l⟩,a,h⟩:=cW b;clear b;replace a:=vQ a;obtain⟨p',p,rfl⟩:=a;rw[Bool.and_eq_true] at h;have c:x=_:=of_decide_eq_true h.1;have d:l=_:=List.isEmpty_iff.mp h.2;subst c d;exact#[p',p,rfl]
def EU(h:(gW o||isNew o)=true):attributeBase o name env whole=whole:=by
 rcases Bool.or_eq_true_iff.mp h with h|h
 ·exact sN h
 ·refine fD (ET h) λb p a=>?_;clear h;(clear h;subst a);exact Mu
def Dg(h:twoArgs es args=true):(args=[]/\es=.nil)∨∃d c,args=[d,c]/\starEach [d,c] env=(false,eval d env)::starEach [c] env/\starEach [c] env=[(false,eval c env)]:=by
 rcases Bool.or_eq_true_iff.mp h with h|h
 ·rw[Bool.and_eq_true] at h;refine .inl #[List.isEmpty_iff.mp h.2,?_];cases es with
  |nil=>rfl
  |cons e r=>cases h.1
 ·refine bB λi f=>?_;obtain⟨⟨a,b⟩,g,h⟩:=cW h;refine f ?_;rw[Bool.and_eq_true] at h;exact .inr #[a,b,Ac g,ew h.1,ew h.2]
section
variable{P:au->Prop}{e:au}{K:Kn}
def aV(h:(a&&b)=true):a=true/\b=true:=Bool.and_eq_true_iff.mp h
def uj(h:(iK e).any (λc'=>decide (c'=c))=true)(k:∀k p,P (.Constant c k p)):P e:=by replace h:=cW h;obtain⟨x,a,h⟩:=h;refine fD (rq a) λq p b=>?_;have d:x=c:=of_decide_eq_true h;rw[b,d];exact k q p
def Bc{N:List Str}{i:Nat}(h:(nameOf e).any (λx=>decide (N[i]?=some x)&&kz x)=true)(k:∀x p,N[i]?=some x->(x==("__debug__":Str))=false->P (.Name x p)):P e:=by replace h:=cW h;obtain⟨x,a,h⟩:=h;replace a:=nQ a;obtain⟨p,rfl⟩:=a;exact k x p (of_decide_eq_true (aV h).1) (yU (aV h).2)
def Tt(h:(nameOf e).any (λx=>decide (y=x)&&fu K x&&kz x)=true)(k:∀x p,y=x->fu K x=true->(x==("__debug__":Str))=false->P (.Name x p)):P e:=by replace h:=cW h;obtain⟨x,a,h⟩:=h;replace a:=nQ a;obtain⟨p,rfl⟩:=a;exact k x p (of_decide_eq_true (aV (aV h).1).1) (aV (aV h).1).2 (yU (aV h).2)
def Bd(h:(uB e).any f=true)(k:∀l q p,f l=true->P (.Tuple l q p)):P e:=by replace h:=cW h;obtain⟨x,a,h⟩:=h;replace a:=Pw a;obtain⟨q,p,rfl⟩:=a;exact k x q p h
def Be(h:(A7 e).any f=true)(k:∀l p,f l=true->P (.List l p)):P e:=by replace h:=cW h;obtain⟨x,a,h⟩:=h;replace a:=Px a;obtain⟨p,rfl⟩:=a;exact k x p h
def Iw{a:Operator}{f g:au->Bool}(h:(A8 e).any (λx=>decide (x.1=a)&&f x.2.1&&g x.2.2)=true)(k:∀l r p,f l=true->g r=true->P (.BinOp l a r p)):P e:=by replace h:=cW h;obtain⟨⟨o,l,r⟩,b,h⟩:=h;replace b:=Py b;obtain⟨p,rfl⟩:=b;have c:o=a:=of_decide_eq_true (aV (aV h).1).1;subst c;exact k l r p (aV (aV h).1).2 (aV h).2
def BP{a:UnaryOp}{f:au->Bool}(h:(uU e).any (λx=>decide (x.1=a)&&f x.2)=true)(k:∀l p,f l=true->P (.UnaryOp a l p)):P e:=by replace h:=cW h;obtain⟨⟨o,l⟩,b,h⟩:=h;replace b:=Ry b;obtain⟨p,rfl⟩:=b;have c:o=a:=of_decide_eq_true (aV h).1;subst c;exact k l p (aV h).2
def Tu{b a:CmpOp}{f g g':au->Bool}(h:(AJ e).any (λx=>decide (x.1=(b,a))&&f x.2.1&&g x.2.2.1&&g' x.2.2.2&&!(lastMarks [b,a] [x.2.2.1,x.2.2.2]))=true)(k:∀l r c p,f l=true->g r=true->g' c=true->lastMarks [b,a] [r,c]=false->P (.Compare l [b,a] [r,c] p)):P e:=by replace h:=cW h;obtain⟨⟨o,l,r,c⟩,d,h⟩:=h;replace d:=NL d;obtain⟨p,rfl⟩:=d;have j:=aV (aV h).1;have i:=aV j.1;have m:o=(b,a):=of_decide_eq_true (aV i.1).1;subst m;exact k l r c p (aV i.1).2 i.2 j.2 (Bool.not_inj (aV h).2)
def Bf{a:CmpOp}{f g:au->Bool}(h:(xM e).any (λx=>decide (x.1=a)&&f x.2.1&&g x.2.2&&!(behindInMarks a x.2.2))=true)(k:∀l r p,f l=true->g r=true->behindInMarks a r=false->P (.Compare l [a] [r] p)):P e:=by replace h:=cW h;obtain⟨⟨o,l,r⟩,b,h⟩:=h;replace b:=Pz b;obtain⟨p,rfl⟩:=b;have c:=aV (aV h).1;have d:o=a:=of_decide_eq_true (aV c.1).1;subst d;exact k l r p (aV c.1).2 c.2 (Bool.not_inj (aV h).2)
def xw{a:BoolOp}{f:List au->Bool}(h:(vBool e).any (λx=>decide (x.1=a)&&f x.2)=true)(k:∀l p,f l=true->P (.BoolOp a l p)):P e:=by replace h:=cW h;obtain⟨⟨o,l⟩,b,h⟩:=h;replace b:=NM b;obtain⟨p,rfl⟩:=b;have c:o=a:=of_decide_eq_true (aV h).1;subst c;exact k l p (aV h).2
def xO{f g:au->Bool}(h:(mP e).any (λx=>f x.1&&g x.2)=true)(k:∀l r p,f l=true->g r=true->(∀a b q,r≠.Slice a b none q)->P (.Subscript l r p)):P e:=by obtain⟨⟨l,r⟩,d,c⟩:=cW h;exact aQ (FR d) λp i j=>(i)▸k l r p (aV c).1 (aV c).2 (Lc j)
def Uz{f:au->Bool}{g g':Option au->Bool}(h:(A9 e).any (λx=>f x.1&&g x.2.1&&g' x.2.2)=true)(k:∀l a b p' p,f l=true->g a=true->g' b=true->P (.Subscript l (.Slice a b none p') p)):P e:=by replace h:=cW h;obtain⟨⟨l,a,b⟩,c,h⟩:=h;replace c:=PA c;obtain⟨p',p,rfl⟩:=c;exact k l a b p' p (aV (aV h).1).1 (aV (aV h).1).2 (aV h).2
def xx{f:List au->Bool}{y:Str}(h:(oM e).any (λx=>f x.2&&decide (y=x.1)&&b&&fu K x.1&&kz x.1&&w4 x.2)=true)(k:∀x a l p' p,f (a::l)=true->y=x->b=true->fu K x=true->(x==("__debug__":Str))=false->du a=true->P (.Call (.Name x p') (a::l) [] p)):P e:=by
 replace h:=cW h;obtain⟨⟨x,args⟩,c,h⟩:=h;replace c:=vQ c;obtain⟨p',p,rfl⟩:=c;refine aX (aV h) λd g=>aX (aV d) λi o=>aX (aV i) λj q=>aX (aV j) λm r=>aX (aV m) λs t=>?_;clear m j i d h;cases args with
|nil=>exact ff g
|cons a l=>exact k x a l p' p s (of_decide_eq_true t) r q (yU o) g
def k1{env:Env}(Z:dT env K){y:Str}{f:au->Bool}(h:(gJ e).any (λx=>blt K x.1 y&&du x.2&&f x.2)=true)(k:∀a p' p,env.kindOf y=some .globalImplicit->du a=true->f a=true->P (.Call (.Name y p') [a] [] p)):P e:=by replace h:=cW h;obtain⟨⟨x,a⟩,b,h⟩:=h;replace b:=ER b;obtain⟨p',p,rfl⟩:=b;refine aX (rH Z (aV (aV h).1).1) λc hk=>?_;have c:x=y:=c;subst c;exact k a p' p hk (aV (aV h).1).2 (aV h).2
def Iy{env:Env}(Z:dT env K){t:String}{f:au->Bool}(h:(call2 e).any (λx=>blt K x.1 "isinstance"&&(nameOf x.2.2).any (λy=>blt K y (Str.ofString t))&&decide (t∈gw)&&du x.2.1&&f x.2.1)=true)(k:∀a q p' p,env.kindOf "isinstance"=some .globalImplicit->env.kindOf (Str.ofString t)=some .globalImplicit->t∈gw->du a=true->f a=true->P (.Call (.Name "isinstance" p') [a,.Name (Str.ofString t) q] [] p)):P e:=by replace h:=cW h;obtain⟨⟨x,a,b⟩,d,h⟩:=h;replace d:=ES d;obtain⟨p',p,rfl⟩:=d;obtain⟨i,j⟩:=aV h;obtain⟨l,m⟩:=aV i;obtain⟨o,r⟩:=aV l;obtain⟨s,c⟩:=aV o;obtain⟨u,hk⟩:=rH Z s;subst (u);refine aQ (cW c) λy v c=>?_;obtain⟨q,w⟩:=nQ v;subst (w);refine aX (rH Z c) λz g=>?_;clear c;subst z;exact k a q p' p hk g (of_decide_eq_true r) m j
def tU{N:List Str}{v:Nat}{br:List Nat}{env:Env}(Z:dT env K){fi:List au->Scope->Bool}{f:au->Bool}{g:Scope->au->Bool}(h:(rY e).any (λx=>fi x.ifs x.scope&&f x.iter&&kt x.iter&&pX N K x.scope x.x v br&&g x.scope x.elt)=true)(k:∀elt x px iter ifs scope p,fi ifs scope=true->f iter=true->kt iter=true->gZ N env scope x v br->g scope elt=true->P (.ListComp elt [#[.Name x px,iter,ifs,0]] scope p)):P e:=by replace h:=cW h;refine bB λr b=>?_;obtain⟨⟨elt,x,iter,ifs,scope⟩,a,h⟩:=h;replace a:=EO a;obtain⟨px,p,rfl⟩:=a;obtain⟨c,d⟩:=aV h;obtain⟨i,j⟩:=aV c;obtain⟨l,m⟩:=aV i;exact aX (aV l) λo q=>b (k elt x px iter ifs scope p o q m (De Z j) d)
def GB{N:List Str}{v:Nat}{br:List Nat}{env:Env}(Z:dT env K){f:au->Bool}{g:Scope->au->Bool}(h:(rY e).any (λx=>x.ifs.isEmpty&&(gJ x.iter).any (λy=>blt K y.1 "range"&&du y.2&&f y.2)&&pX N K x.scope x.x v br&&g x.scope x.elt)=true)(k:∀elt x px a scope p' b p,f a=true->env.kindOf "range"=some .globalImplicit->du a=true->gZ N env scope x v br->g scope elt=true->P (.ListComp elt [#[.Name x px,.Call (.Name "range" p') [a] [] b,[],0]] scope p)):P e:=by replace h:=cW h;obtain⟨⟨elt,x,iter,ifs,scope⟩,c,h⟩:=h;replace c:=EO c;obtain⟨px,p,rfl⟩:=c;obtain⟨d,l⟩:=aV h;obtain⟨i,m⟩:=aV d;obtain⟨j,o⟩:=aV i;have q:ifs=[]:=List.isEmpty_iff.mp j;clear j i d h;subst q;exact k1 (P:=λr=>P (.ListComp elt [#[.Name x px,r,[],0]] scope p)) Z o λa p' b hk s t=>k elt x px a scope p' b p t hk s (De Z m) l
end
def DQ(h:isNone x=true):x=.none:=by cases x<;>first|rfl|exact ff h
section
variable{P:au->Prop}{e:au}{K:Kn}
def Tv{env:Env}(Z:dT env K){y:Str}{f g:au->Bool}(h:(call2 e).any (λx=>blt K x.1 y&&du x.2.1&&du x.2.2&&f x.2.1&&g x.2.2)=true)(k:∀a b p' p,env.kindOf y=some .globalImplicit->du a=true->du b=true->f a=true->g b=true->P (.Call (.Name y p') [a,b] [] p)):P e:=by replace h:=cW h;refine bB λu o=>?_;obtain⟨⟨x,a,b⟩,c,h⟩:=h;replace c:=ES c;obtain⟨p',p,rfl⟩:=c;obtain⟨i,q⟩:=aV h;obtain⟨j,r⟩:=aV i;obtain⟨l,s⟩:=aV j;obtain⟨m,t⟩:=aV l;obtain⟨d,hk⟩:=rH Z m;have d:x=y:=d;clear m l j i h;subst d;exact o (k a b p' p hk t s r q)
def Hv{env:Env}(Z:dT env K){f:au->Bool}(h:(AL e).any (λx=>blt K "max" "max"&&du x&&f x)=true)(k:∀a q b c p' p,env.kindOf "max"=some .globalImplicit->du a=true->f a=true->P (.Call (.Name "max" p') [a] [#[some "default",.Constant (.int 0) q b,c]] p)):P e:=by replace h:=cW h;obtain⟨a,d,h⟩:=h;refine Ta (NP d) λp' p q b c g=>?_;clear d;(clear Hv;subst g);exact k a q b c p' p (rH Z (aV (aV h).1).1).2 (aV (aV h).1).2 (aV h).2
def w6{m:Str}{f g:au->Bool}(h:(uh e).any (λx=>decide (x.1=m)&&du x.2.2&&f x.2.1&&g x.2.2)=true)(k:∀o a ap p,gW o=true->(ap.endLine==p.line)=true->du a=true->f o=true->g a=true->P (.Call (.Attribute o m ap) [a] [] p)):P e:=by refine bB λw c=>?_;obtain⟨⟨x,o,a⟩,b,d⟩:=cW h;refine dk (NQ b) λap p i hb j=>?_;clear b;(clear h w6;subst i);refine aX (aV d) λl q=>aX (aV l) λr s=>aX (aV r) λt u=>?_;have v:x=m:=of_decide_eq_true t;subst v;exact c (k o a ap p hb j u s q)
def GC{m:Str}{f g g':au->Bool}(h:(AM e).any (λx=>decide (x.1=m)&&du x.2.2.1&&du x.2.2.2&&f x.2.1&&g x.2.2.1&&g' x.2.2.2)=true)(k:∀o a b ap p,gW o=true->(ap.endLine==p.line)=true->du a=true->du b=true->f o=true->g a=true->g' b=true->P (.Call (.Attribute o m ap) [a,b] [] p)):P e:=by refine bB λD d=>?_;obtain⟨⟨x,o,a,b⟩,c,i⟩:=cW h;refine dk (NR c) λap p j hb l=>?_;clear c;(clear h GC;subst j);refine aX (aV i) λq r=>aX (aV q) λs t=>aX (aV s) λu v=>aX (aV u) λw y=>aX (aV w) λz B=>?_;have C:x=m:=of_decide_eq_true z;subst C;exact d (k o a b ap p hb l B y v t r)
def Hw{es:EL}{m:Str}{b:Bool}{f:au->Bool}{g:List au->Bool}(h:(ug e).any (λy=>decide (m=y.m)&&b&&(gW y.o||isNew y.o)&&(y.ap.endLine==y.p.line)&&twoArgs es y.args&&f y.o&&g y.args)=true)(k:∀o x l ap p,m=x->b=true->(gW o||isNew o)=true->(ap.endLine==p.line)=true->twoArgs es l=true->f o=true->g l=true->P (.Call (.Attribute o x ap) l [] p)):P e:=by replace h:=cW h;refine bB λC d=>?_;obtain⟨⟨o,x,ap,p,l⟩,i,h⟩:=h;exact aX (aV h) λj q=>aX (aV j) λr s=>aX (aV r) λt u=>aX (aV t) λv w=>aX (aV v) λz B=>aX (aV z) λa c=>d ((zg i)▸k o x l ap p (of_decide_eq_true a) c B w u s q)
def Tx{x:Str}{f:au->Bool}(h:(qj e).any (λy=>decide (x=("many":Str))&&decide (y.2=("many":Str))&&(nameOf y.1).isSome&&f y.1)=true)(k:∀y q p,x="many"->f (.Name y q)=true->P (.Attribute (.Name y q) "many" p)):P e:=by replace h:=cW h;obtain⟨⟨o,z⟩,a,h⟩:=h;replace a:=zh a;obtain⟨p,rfl⟩:=a;refine aX (aV h) λb c=>aX (aV b) λd g=>aX (aV d) λi j=>?_;obtain⟨y,l⟩:=Option.isSome_iff_exists.mp g;obtain⟨q,m⟩:=nQ l;have r:z=_:=of_decide_eq_true j;subst (m) r;exact k y q p (of_decide_eq_true i) c
end
variable(bc:cP G)(F:jb G)(Y:Ao A n)(bT:k8 G n)
include bc F Y bT
mutual
theorem bW:∀(x:E){K:Kn}{e:au}{env:Env},dT env K->bz G.aE N x K e=true->a9 G n A N env x e
|.none,K,e,env,Z,j=>uj j λ_ _=>OW
|.bool b,K,e,env,Z,j=>uj j λ_ _=>OX
|.int b,K,e,env,Z,j=>uj j λ_ _=>Gq
|.str b,K,e,env,Z,j=>uj j λ_ _=>Rg
|.aa i,K,e,env,Z,j=>Bc j λ_ _ k m=>z7 k m
|.glob g,K,e,env,Z,j=>Tt j λ_ _ k m B=>OY bc k (Z.fu m) B
|.ay es,K,e,env,Z,j=>Bd j λ_ _ _ h=>Rh (jB es Z h)
|.af es,K,e,env,Z,j=>Be j λ_ _ h=>Gs (jB es Z h)
|.ak op a b,K,e,env,Z,j=>Iw j λ_ _ _ k m=>Ri (bW a Z k) (bW b Z m)
|.neg a,K,e,env,Z,j=>BP j λ_ _ h=>Rj (bW a Z h)
|.cmp op a b,K,e,env,Z,j=>Bf j λ_ _ _ k m B=>Rk bc Y (bW a Z k) (bW b Z m) B
|.not a,K,e,env,Z,j=>BP j λ_ _ h=>Rl (bW a Z h)
|.and es,K,e,env,Z,j=>xw j λ_ _ h=>Rp (yV es Z h)
|.or es,K,e,env,Z,j=>xw j λ_ _ h=>Th (yV es Z h)
|.aq a i,K,e,env,Z,j=>xO j λ_ _ _ k m B=>z8 bc (bW a Z k) (bW i Z m) B
|.slc a lo hi,K,e,env,Z,j=>Uz (P:=a9 G n A N env (.slc a lo hi)) (f:=bz G.aE N a K) (g:=λo=>w5 o (isNone lo) λy=>bz G.aE N lo K y) (g':=λo=>w5 o (isNone hi) λy=>bz G.aE N hi K y) j λ_ Q R _ _ k m B=>
   Rm (bW a Z k) (match Q,m with|none,m=>DQ m|some _,m=>bW lo Z m) (match R,B with|none,B=>DQ B|some _,B=>bW hi Z B)
|.call f es,K,e,env,Z,j=>xx j λ_ _ _ _ _ k m B D I U=>FH bc F Y bT (Af (aV B).2) (jB es Z k) m (aV B).1 (Z.fu D) I (ew U)
|.len a,K,e,env,Z,j=>k1 Z j λ_ _ _ k m B=>Rn bc (bW a Z B) k (ew m)
|.toInt a,K,e,env,Z,j=>k1 Z j λ_ _ _ k m B=>Nr bc (bW a Z B) k (ew m)
|.toStr a,K,e,env,Z,j=>k1 Z j λ_ _ _ k m B=>Nt bc (bW a Z B) k (ew m)
|.sum a,K,e,env,Z,j=>k1 Z j λ_ _ _ k m B=>Ro bc Y (bW a Z B) k (ew m)
|.list a,K,e,env,Z,j=>k1 Z j λ_ _ _ k m B=>O3 bc (bW a Z B) k (ew m)
|.tuple a,K,e,env,Z,j=>k1 Z j λ_ _ _ k m B=>Nu bc (bW a Z B) k (ew m)
|.dict a,K,e,env,Z,j=>k1 Z j λ_ _ _ k m B=>O4 bc (bW a Z B) k (ew m)
|.max2 a b,K,e,env,Z,j=>Tv Z j λ_ _ _ _ k m B D I=>O5 bc Y (bW a Z D) (bW b Z I) k (ew m) (ew B)
|.hY a,K,e,env,Z,j=>Hv Z j λ_ _ _ _ _ _ k m B=>O6 bc Y (bW a Z B) k (ew m)
|.d0 t a,K,e,env,Z,j=>Iy Z j λ_ _ _ _ k m B D I=>DI bc (bW a Z I) k m (rP B).1 (rP B).2.1 (rP B).2.2 (ew D)
|.join a b,K,e,env,Z,j=>w6 j λ_ _ _ _ hb hl k m B=>O7 (bW a Z m) (bW b Z B) hb hl (ew k)
|.comp elt v br src,K,e,env,Z,j=>tU Z (fi:=λl _=>l.isEmpty) (f:=bz G.aE N src K) (g:=λs y=>bz G.aE N elt (gv K s.names) y) j λ_ _ _ _ ifs _ _ T k m W D=>by
   have e0:ifs=[]:=List.isEmpty_iff.mp T;clear T;subst e0;exact EK Y (bW src Z k) W m (λ_ _=>rfl) λcl C L it _=>sP (bW elt (Z.inner W cl C) D)
|.fX elt v br src t,K,e,env,Z,j=>tU Z (fi:=λl s=>(one l).any λte=>mQ G.aE N t (gv K s.names) te) (f:=bz G.aE N src K) (g:=λs y=>bz G.aE N elt (gv K s.names) y) j λ_ _ _ _ ifs _ _ T k m W D=>by
   refine aQ (cW T) λte ho I=>?_;have e0:ifs=[te]:=rN ho;clear ho T;subst e0;exact EK Y (bW src Z k) W m (λ_ _=>rfl) λcl C L it _=>DJ (bW elt (Z.inner W cl C) D) (rI t (Z.inner W cl C) I)
|.fZ elt v br src,K,e,env,Z,j=>GB Z (f:=bz G.aE N src K) (g:=λs y=>bz G.aE N elt (gv K s.names) y) j λ_ _ _ _ _ _ _ _ k m B W D=>NC bc Y (bW src Z k) W m (ew B) λcl C _=>bW elt (Z.inner W cl C) D
|.az ks es,K,e,env,Z,j=>by
  have J:(AK e).any (λx=>(x.1.isEmpty&&x.2.isEmpty&&ks.isEmpty&&p7 es)||(!x.1.isEmpty&&uC ks es x.1 x.2))=true:=j;obtain⟨⟨k',v'⟩,hx,h⟩:=cW J;replace hx:=NO hx;obtain⟨p,rfl⟩:=hx;rcases Bool.or_eq_true_iff.mp h with h|h
  ·simp only[Bool.and_eq_true,List.isEmpty_iff] at h;obtain⟨⟨⟨k,m⟩,rfl⟩,D⟩:=h;obtain rfl:k'=[]:=k;obtain rfl:v'=[]:=m;clear J j;cases es with
   |nil=>exact O8
   |cons a b=>exact ff D
  ·rw[Bool.and_eq_true,Bool.not_eq_true'] at h;exact cb (FT h.2) λis d=>Pr d λq=>by
    have k:k'.isEmpty=false:=h.1;have q:k'=[]:=q;(replace k:=q▸k);exact tf k
|.get a b c,K,e,env,Z,j=>GC j λ_ _ _ _ _ hb hl k m B D I=>Rw bc (bW a Z B) (bW b Z D) (bW c Z I) hb hl (by(refine(ew k)▸?_;refine(ew m)▸?_);rfl)
|.jh op op' a b c,K,e,env,Z,j=>Tu j λ_ _ _ _ k m B D=>O0 bc Y (bW a Z k) (bW b Z m) (bW c Z B) D
|.cQ f o es,K,e,env,Z,j=>Hw j λ_ _ _ _ _ T k m B D I U=>Ps bc F Y bT (Af (aV k).2) (bW o Z I) (jB es Z U) T (not_iff (aV k).1) (EU m) B (Dg D)
|.new c,K,e,env,Z,j=>by
  have J:(isNew e&&fu K "Teller")=true:=j;rw[Bool.and_eq_true] at J;refine fD (ET J.1) λp' p aW=>?_;clear j;subst aW;exact Rx bc Y (Z.fu J.2)
|.attr o x,K,e,env,Z,j=>Tx j λ_ _ _ k m=>by(clear j;subst k);exact Pt bc (bW o Z m)
theorem jB:∀(x:EL){K:Kn}{l:List au}{env:Env},dT env K->jO G.aE N x K l=true->gB G n A N env x l
|.nil,K,l,env,Z,j=>by
  have J:l.isEmpty=true:=j;rw[List.isEmpty_iff] at J;(clear j;subst J);exact Gu
|.cons x r,K,l,env,Z,j=>by
  cases l with
  |nil=>exact absurd (show false=true from j) cU
  |cons e t=>
   have h:(du e&&bz G.aE N x K e&&jO G.aE N r K t)=true:=j;simp only[Bool.and_eq_true] at h;exact OZ (bW x Z h.1.2) (jB r Z h.2) (ew h.1.1)
theorem yV:∀(x:EL){K:Kn}{l:List au}{env:Env},dT env K->rO G.aE N x K l=true->rV G n A N env op x l
|.nil,K,l,env,Z,h=>absurd (show false=true from h) cU
|.cons x .nil,K,l,env,Z,j=>by
  have J:(one l).any (λe=>bz G.aE N x K e)=true:=j;exact aQ (cW J) λe ho h=>(rN ho)▸LG (bW x Z h)
|.cons x (.cons y z),K,l,env,Z,j=>by
  cases l with
  |nil=>exact absurd (show false=true from j) cU
  |cons e t=>
   have X:(bz G.aE N x K e&&rO G.aE N (.cons y z) K t)=true:=j;rw[Bool.and_eq_true] at X;clear j;cases t with
   |nil=>
    have B:rO G.aE N (.cons y z) K []=true:=X.2;clear X;cases z with
    |nil=>exact absurd (show false=true from B) cU
    |cons u w=>exact absurd (show false=true from B) cU
   |cons e' t=>exact LH (bW x Z X.1) (yV (.cons y z) Z X.2)
theorem rI:∀(x:E){K:Kn}{e:au}{env:Env},dT env K->mQ G.aE N x K e=true->ip G n A N env x e
|.not a,K,e,env,Z,j=>BP j λ_ _ h=>O2 (rI a Z h)
|.and es,K,e,env,Z,j=>xw j λ_ _ h=>O9 (yW es Z h)
|.or es,K,e,env,Z,j=>xw j λ_ _ h=>Rq (yW es Z h)
|.cmp op a b,K,e,env,Z,j=>Bf j λ_ _ _ k m B=>O1 bc Y (bW a Z k) (bW b Z m) B
|.aa i,K,e,env,Z,j=>Bc j λ_ _ k m=>wI (z7 k m) (λ_ _=>rfl) rfl
|.call f es,K,e,env,Z,j=>xx j λ_ _ _ _ _ k m B D I U=>wI (FH bc F Y bT (Af (aV B).2) (jB es Z k) m (aV B).1 (Z.fu D) I (ew U)) (λ_ _=>rfl) rfl
|.d0 t a,K,e,env,Z,j=>Iy Z j λ_ _ _ _ k m B D I=>wI (DI bc (bW a Z I) k m (rP B).1 (rP B).2.1 (rP B).2.2 (ew D)) (λ_ _=>NS) rfl
|.aq a i,K,e,env,Z,j=>xO j λ_ _ _ k m B=>wI (z8 bc (bW a Z k) (bW i Z m) B) (λ_ _=>rfl) rfl
|.none,K,e,env,Z,h=>absurd (show false=true from h) cU
|.bool _,K,e,env,Z,h=>absurd (show false=true from h) cU
|.int _,K,e,env,Z,h=>absurd (show false=true from h) cU
|.str _,K,e,env,Z,h=>absurd (show false=true from h) cU
|.glob _,K,e,env,Z,h=>absurd (show false=true from h) cU
|.ay _,K,e,env,Z,h=>absurd (show false=true from h) cU
|.af _,K,e,env,Z,h=>absurd (show false=true from h) cU
|.az _ _,K,e,env,Z,h=>absurd (show false=true from h) cU
|.ak _ _ _,K,e,env,Z,h=>absurd (show false=true from h) cU
|.neg _,K,e,env,Z,h=>absurd (show false=true from h) cU
|.jh _ _ _ _ _,K,e,env,Z,h=>absurd (show false=true from h) cU
|.slc _ _ _,K,e,env,Z,h=>absurd (show false=true from h) cU
|.cQ _ _ _,K,e,env,Z,h=>absurd (show false=true from h) cU
|.new _,K,e,env,Z,h=>absurd (show false=true from h) cU
|.attr _ _,K,e,env,Z,h=>absurd (show false=true from h) cU
|.len _,K,e,env,Z,h=>absurd (show false=true from h) cU
|.toInt _,K,e,env,Z,h=>absurd (show false=true from h) cU
|.toStr _,K,e,env,Z,h=>absurd (show false=true from h) cU
|.sum _,K,e,env,Z,h=>absurd (show false=true from h) cU
|.hY _,K,e,env,Z,h=>absurd (show false=true from h) cU
|.max2 _ _,K,e,env,Z,h=>absurd (show false=true from h) cU
|.list _,K,e,env,Z,h=>absurd (show false=true from h) cU
|.tuple _,K,e,env,Z,h=>absurd (show false=true from h) cU
|.dict _,K,e,env,Z,h=>absurd (show false=true from h) cU
|.join _ _,K,e,env,Z,h=>absurd (show false=true from h) cU
|.get _ _ _,K,e,env,Z,h=>absurd (show false=true from h) cU
|.comp _ _ _ _,K,e,env,Z,h=>absurd (show false=true from h) cU
|.fX _ _ _ _ _,K,e,env,Z,h=>absurd (show false=true from h) cU
|.fZ _ _ _ _,K,e,env,Z,h=>absurd (show false=true from h) cU
theorem yW:∀(x:EL){K:Kn}{l:List au}{env:Env},dT env K->tT G.aE N x K l=true->rW G n A N env op x l
|.nil,K,l,env,Z,j=>by
  have J:l.isEmpty=true:=j;rw[List.isEmpty_iff] at J;(clear j;subst J);exact Mg
|.cons x r,K,l,env,Z,j=>by
  cases l with
  |nil=>exact absurd (show false=true from j) cU
  |cons e t=>
   have h:(mQ G.aE N x K e&&tT G.aE N r K t)=true:=j;simp only[Bool.and_eq_true] at h;exact LI (rI x Z h.1) (yW r Z h.2)
end
end
section
variable{G:Gd}{n:Nat}{A:Around}{N:List Str}
def qT(h:ku e=true)(t:Option au)(l:Nat)(env:Env):swapsWith e t l env=pure false:=by cases e<;>first|rfl|exact ff h
def vc{env:Env}{K:Kn}(Z:dT env K):interactive env=false:=by unfold interactive;(refine(Z.kind)▸?_);rfl
def yI:∃b:Bool,swapsWith (.ListComp elt gens scope p) (some (.Name y py)) l env=pure b:=#[_,rfl]
variable(bc:cP G)(F:jb G)(Y:Ao A n)(bT:k8 G n)
include bc F Y bT
def Mw{i:Nat}{x:E}{K:Kn}{y:Str}(Z:dT env K)(o:bz G.aE N x K e=true)(c:N[i]?=some y)(d:fw K y=true)(u:ku e=true∨rG x=true):dU G n A N env (.aK i x) (.Assign [.Name y py] e p):=by
 have a:=bW bc F Y bT x Z o
 by_cases w:ku e=true
 ·exact wZ a c (Z.fw d) (qT w ..)
 ·have B:rG x=true:=u.resolve_left w;clear u;cases x with
  |comp elt v br src=>
   refine tU (P:=λe=>a9 G n A N env (.comp elt v br src) e->dU G n A N env (.aK i (.comp elt v br src)) (.Assign [.Name y py] e p)) Z (fi:=λl _=>l.isEmpty) (f:=bz G.aE N src K) (g:=λs y=>bz G.aE N elt (gv K s.names) y) o (λ_ _ _ _ ifs _ _ h j k W m a=>?_) a;have q:ifs=[]:=List.isEmpty_iff.mp h;clear h;subst q;obtain⟨b,hb⟩:=yI;cases b with
   |false=>exact wZ a c (Z.fw d) hb
   |true=>exact CR Y (bW bc F Y bT src Z j) W k (λ_ _=>rfl) (λcl C L D _=>sP (bW bc F Y bT elt (Z.inner W cl C) m)) c (Z.fw d) hb
  |fX elt v br src t=>
   refine tU (P:=λe=>a9 G n A N env (.fX elt v br src t) e->dU G n A N env (.aK i (.fX elt v br src t)) (.Assign [.Name y py] e p)) Z (fi:=λl s=>(one l).any λr=>mQ G.aE N t (gv K s.names) r) (f:=bz G.aE N src K) (g:=λs y=>bz G.aE N elt (gv K s.names) y) o (λ_ _ _ _ ifs _ _ h j k W m a=>?_) a;refine aQ (cW h) λr z I=>?_;have q:ifs=[r]:=rN z;clear z h;subst q;obtain⟨b,hb⟩:=yI;cases b with
   |false=>exact wZ a c (Z.fw d) hb
   |true=>exact CR Y (bW bc F Y bT src Z j) W k (λ_ _=>rfl) (λcl C L D _=>DJ (bW bc F Y bT elt (Z.inner W cl C) m) (rI bc F Y bT t (Z.inner W cl C) I)) c (Z.fw d) hb
  |fZ elt v br src=>
   refine GB (P:=λe=>a9 G n A N env (.fZ elt v br src) e->dU G n A N env (.aK i (.fZ elt v br src)) (.Assign [.Name y py] e p)) Z (f:=bz G.aE N src K) (g:=λs y=>bz G.aE N elt (gv K s.names) y) o (λ_ _ _ _ _ _ _ _ j k J W m a=>?_) a;obtain⟨b,hb⟩:=yI;cases b with
   |false=>exact wZ a c (Z.fw d) hb
   |true=>exact Lk bc Y (bW bc F Y bT src Z j) W k (ew J) (λcl C _=>bW bc F Y bT elt (Z.inner W cl C) m) c (Z.fw d) hb
  |_=>exact ff B
omit bc F Y bT in
def DR{N:List Str}{K:Kn}(h:tgt N K i t=true):∃y p,t=.Name y p/\N[i]?=some y/\fw K y=true:=by refine aQ (cW h) λy a b=>?_;replace a:=nQ a;obtain⟨p,rfl⟩:=a;rw[Bool.and_eq_true] at b;exact#[y,p,rfl,of_decide_eq_true b.1,b.2]
omit bc F Y bT in
def FV{N:List Str}{K:Kn}(Z:dT env K):∀{is:List Nat}{l:List au},tgts N K is l=true->kE N env is l
|[],l,h=>by
  have h:l.isEmpty=true:=h
  (refine(List.isEmpty_iff.mp h)▸?_);exact .nil
|i::is,[],h=>absurd (show false=true from h) cU
|i::is,t::l,h=>by
  have h:(tgt N K i t&&tgts N K is l)=true:=h;rw[Bool.and_eq_true] at h;exact dk (DR h.1) λy p e a b=>(e)▸.cons a (Z.fw b) (FV Z h.2)
end
def cP.re(K:cP G)(R:List Addr):cP (G.re R):=#[K.nolimit,K.Hi,K.Ik,K.script,K.short,let #[mg,N,mN,h1,h2,T]:=K.tell;#[mg,N,mN,h1,h2,#[T.cls,T.q1,T.q2,T.q3,T.q4,T.meths,T.Jl]]]
section
variable{P:Stmt->Prop}{st:Stmt}
def si{P:au->Prop}{N:List Str}{K:Kn}(h:tgt N K i t=true)(k:∀y p,N[i]?=some y->fw K y=true->P (.Name y p)):P t:=by refine dk (DR h) λy p a b c=>?_;clear h;subst a;exact k y p b c
def sk{f:au->au->Bool}(h:(oU st).any (λy=>f y.1 y.2)=true)(k:∀t e p,f t e=true->P (.Assign [t] e p)):P st:=by replace h:=cW h;obtain⟨⟨t,e⟩,a,h⟩:=h;replace a:=FU a;obtain⟨p,rfl⟩:=a;exact k t e p h
def xP(h:(uD st).any f=true)(k:∀e p,f e=true->P (.Expr e p)):P st:=by replace h:=cW h;obtain⟨e,a,h⟩:=h;replace a:=PF a;obtain⟨p,rfl⟩:=a;exact k e p h
def Iz{f:au->Bool}{g g':List Stmt->Bool}(h:(Bb st).any (λy=>f y.1&&g y.2.1&&g' y.2.2)=true)(k:∀c t e p,f c=true->g t=true->g' e=true->P (.If c t e p)):P st:=by replace h:=cW h;obtain⟨⟨c,t,e⟩,a,h⟩:=h;replace a:=PG a;obtain⟨p,rfl⟩:=a;exact k c t e p (aV (aV h).1).1 (aV (aV h).1).2 (aV h).2
def BQ{f:au->au->Bool}{g:List Stmt->Bool}(h:(ya st).any (λy=>f y.1 y.2.1&&g y.2.2)=true)(k:∀t a b p,f t a=true->g b=true->P (.For t a b [] p)):P st:=by replace h:=cW h;obtain⟨⟨t,a,b⟩,c,h⟩:=h;replace c:=RA c;obtain⟨p,rfl⟩:=c;exact k t a b p (aV h).1 (aV h).2
def Bg(h:(xN st).any (λy=>y.any f)=true)(k:∀e p,f e=true->P (.Return (some e) p)):P st:=by refine aQ (cW h) λy a b=>cb (PH a) λp c=>aQ (cW b) λe d g=>?_;exact c▸d▸k e p g
end
def RC{G:Gd}{n:Nat}{A:Around}{N:List Str}{env:Env}{is:List Nat}(Y:Ao A n)(b:a9 G n A N env x e)(T:kE N env is l)(h:(nameOf e).isSome=true∨(mP e).isSome=true):dU G n A N env (.ik is x) (.Assign [.Tuple l k p'] e p):=by
 rcases h with h|h
 ·obtain⟨y,a⟩:=Option.isSome_iff_exists.mp h;replace a:=nQ a;obtain⟨c,rfl⟩:=a;exact Gz Y b T rfl rfl
 ·obtain⟨⟨f,g⟩,a⟩:=Option.isSome_iff_exists.mp h;refine aQ (FR a) λc d _=>?_;clear a;subst (d);exact Gz Y b T rfl rfl
def RD{P:au->Prop}{e:au}{x:Str}{f:au->Bool}(h:(qj e).any (λy=>decide (x=("many":Str))&&decide (y.2=("many":Str))&&f y.1)=true)(k:∀o p,x="many"->f o=true->P (.Attribute o "many" p)):P e:=by replace h:=cW h;obtain⟨⟨o,z⟩,a,h⟩:=h;replace a:=zh a;obtain⟨p,rfl⟩:=a;refine aX (aV h) λb d=>aX (aV b) λg c=>?_;have i:z=_:=of_decide_eq_true c;clear c b h;subst i;exact k o p (of_decide_eq_true g) d
section
variable{G:Gd}{n:Nat}{A:Around}{N:List Str}
variable(bc:cP G)(F:jb G)(Y:Ao A n)(bT:∀R,k8 (G.re R) n)
include bc F Y bT
mutual
theorem wK{K:Kn}{env:Env}(Z:dT env K):∀(x:S){st:Stmt},oV G.aE N K x st=true->∀R,dU (G.re R) n A N env x st
|.aK i x,st,a,R=>sk (P:=dU (G.re R) n A N env (.aK i x)) (f:=λt e=>tgt N K i t&&bz G.aE N x K e&&(ku e||rG x)) a λt e p h=>
   si (P:=λt=>dU (G.re R) n A N env (.aK i x) (.Assign [t] e p)) (aV (aV h).1).1 λ_ _ s d=>Mw (G:=G.re R) (bc.re R) F Y (bT R) Z (aV (aV h).1).2 s d (Bool.or_eq_true_iff.mp (aV h).2)
|.eX o i x,st,a,R=>sk (P:=dU (G.re R) n A N env (.eX o i x)) (f:=λt e=>(mP t).any (λz:au×au=>bz G.aE N o K z.1&&bz G.aE N i K z.2)&&bz G.aE N x K e&&ku e) a λt e p h=>
   xO (P:=λt=>dU (G.re R) n A N env (.eX o i x) (.Assign [t] e p)) (f:=bz G.aE N o K) (g:=bz G.aE N i K) (aV (aV h).1).1 λ_ _ _ j k _=>Po (bW (bc.re R) F Y (bT R) x Z (aV (aV h).1).2) (bW (bc.re R) F Y (bT R) o Z j) (bW (bc.re R) F Y (bT R) i Z k) (qT (aV h).2 ..)
|.append o x,st,a,R=>xP a λe p h=>
   w6 (P:=λe=>dU (G.re R) n A N env (.append o x) (.Expr e p)) (m:="append") (f:=bz G.aE N o K) h λ_ _ _ _ hb d j k u=>Mq (bW (bc.re R) F Y (bT R) o Z k) (bW (bc.re R) F Y (bT R) x Z u) hb d (vc Z) (ew j)
|.expr x,st,a,R=>xP a λe p h=>Pf (bW (bc.re R) F Y (bT R) x Z (aV h).1) (vc Z) (qT (aV h).2 ..)
|.ite c t e,st,a,R=>Iz a λ_ _ _ _ j k u=>Rv (rI (bc.re R) F Y (bT R) c Z j) (n8 Z t k R) (n8 Z e u R)
|.sa _ _,st,h,_=>absurd (show false=true from h) cU
|.iL i x b,st,a,R=>BQ (P:=dU (G.re R) n A N env (.iL i x b)) (f:=λt q=>tgt N K i t&&bz G.aE N x K q&&kt q) (g:=gK G.aE N K b) a λt q v p h hb=>
   si (P:=λt=>dU (G.re R) n A N env (.iL i x b) (.For t q v [] p)) (aV (aV h).1).1 λ_ _ s d=>Pl Y (bW (G:=G.re R) (bc.re R) F Y (bT R) x Z (aV (aV h).1).2) (n8 Z b hb R) (aV h).2 s (Z.fw d)
|.eV i x b,st,a,R=>BQ (P:=dU (G.re R) n A N env (.eV i x b)) (f:=λt q=>tgt N K i t&&(gJ q).any (λz:Str×au=>blt K z.1 "range"&&du z.2&&bz G.aE N x K z.2)) (g:=gK G.aE N K b) a λt q v p h hb=>
   si (P:=λt=>dU (G.re R) n A N env (.eV i x b) (.For t q v [] p)) (aV h).1 λy C s d=>k1 (P:=λq=>dU (G.re R) n A N env (.eV i x b) (.For (.Name y C) q v [] p)) Z (y:="range") (aV h).2 λ_ _ _ hk D I=>Pn (bc.re R) Y (bW (bc.re R) F Y (bT R) x Z I) (n8 Z b hb R) s (Z.fw d) hk (ew D)
|.ret x,st,a,R=>Bg a λ_ _ h=>Gy (bW (bc.re R) F Y (bT R) x Z h)
|.sb,st,h,_=>absurd (show false=true from h) cU
|.ik is x,st,a,R=>sk (P:=dU (G.re R) n A N env (.ik is x)) (f:=λt e=>(uB t).any (λl=>tgts N K is l)&&bz G.aE N x K e&&((nameOf e).isSome||(mP e).isSome)) a λt e p h=>
   Bd (P:=λt=>dU (G.re R) n A N env (.ik is x) (.Assign [t] e p)) (f:=λl=>tgts N K is l) (aV (aV h).1).1 λl _ _ d=>RC Y (bW (G:=G.re R) (bc.re R) F Y (bT R) x Z (aV (aV h).1).2) (FV Z d) (Bool.or_eq_true_iff.mp (aV h).2)
|.jQ o x w,st,a,R=>sk (P:=dU (G.re R) n A N env (.jQ o x w)) (f:=λt e=>(qj t).any (λz:au×Str=>decide (x=("many":Str))&&decide (z.2=("many":Str))&&bz G.aE N o K z.1)&&bz G.aE N w K e&&ku e) a λt e p h=>
   RD (P:=λt=>dU (G.re R) n A N env (.jQ o x w) (.Assign [t] e p)) (f:=bz G.aE N o K) (aV (aV h).1).1 λ_ _ j k=>by(clear a;subst j);exact Pu (bc.re R) (bW (G:=G.re R) (bc.re R) F Y (bT R) w Z (aV (aV h).1).2) (bW (G:=G.re R) (bc.re R) F Y (bT R) o Z k) (qT (aV h).2 ..)
|.update o x,st,a,R=>xP a λe p h=>
   w6 (P:=λe=>dU (G.re R) n A N env (.update o x) (.Expr e p)) (m:="update") (f:=bz G.aE N o K) h λ_ _ _ _ hb d j k u=>Mr (bc.re R) (bW (bc.re R) F Y (bT R) o Z k) (bW (bc.re R) F Y (bT R) x Z u) hb d (vc Z) (ew j)
|.uv _ _ _ _ _,st,h,_=>absurd (show false=true from h) cU
|.raise _ _,st,a,_=>NJ
|.hZ _ _ _,st,h,_=>absurd (show false=true from h) cU
theorem n8{K:Kn}(Z:dT env K):∀(x:SL){l:List Stmt},gK G.aE N K x l=true->∀R,iN (G.re R) n A N env x l
|.nil,l,a,R=>by
  have B:l.isEmpty=true:=a;rw[List.isEmpty_iff] at B;(clear a;subst B);exact zL
|.cons x r,l,a,R=>by
  cases l with
  |nil=>exact absurd (show false=true from a) cU
  |cons st t=>
   obtain⟨j,k⟩:=aV (show(oV G.aE N K x st&&gK G.aE N K r t)=true from a);exact EM (wK Z x j R) (n8 Z r k R)
end
end
end Qh
namespace Qh
open PySem PySem.W PyProof.Rows
section
variable{t:Nat}
def bH.fc{α:Type}{xs:List α}{k:Int}:bH t (fc xs k):=.ite .dD .fail
def bH.index{C:Ctx}{a i:V}:bH t (index C a i):=by cases a<;>first|exact .fail|(cases i<;>first|exact .fail|exact .fc|exact .bind .fc λ_=>.pure|exact .bind .bO λ_=>.fc|exact .bind .cH λo=>(by cases o<;>first|exact .fail|exact .dD))
def bH.jM{α:Type}{xs:List α}{a b:V}:bH t (jM xs a b):=by cases a<;>first|exact .fail|(cases b<;>first|exact .fail|exact .ite .pure .fail)
def bH.slice{a b c:V}:bH t (slice a b c):=by cases a<;>first|exact .fail|exact .bind .jM λ_=>.ite .pure .fail|exact .bind .bO λ_=>.bind .jM λ_=>.ite .dB .fail
def bH.lenOf{C:Ctx}{a:V}:bH t (lenOf C a):=by cases a<;>first|exact .fail|exact .pure|exact .ite .pure .fail|exact .bind .bO λ_=>.ite .pure .fail
def bH.rU{a:V}:bH t (rU a):=by cases a<;>first|exact .fail|exact .ite .dB .fail
def bH.oF{a:V}:bH t (oF a):=by cases a<;>first|exact .fail|exact .bind .cH λo=>(by cases o<;>first|exact .fail|exact .ite .dB .fail)
def bH.jg{i:Nat}{o:O}:bH t (jg i o):=λ_ _ e=>~~~sv e
def bH.iB{o i e:V}:bH t (iB o i e):=by cases o<;>first|exact .fail|(cases i<;>first|exact .fail|exact .bind .bO λ_=>.ite .jg .fail|exact .bind .cH λo=>(by cases o<;>first|exact .fail|exact .ite .jg .fail))
def bH.ea{s:Src}{k:Nat}:bH t (ea s k):=by cases s<;>first|exact .pure|exact .bind .bO λ_=>.pure
def bH.dG{s:Src}{f:V->M (Option V)}(h:∀v,bH t (f v)):∀n k,bH t (dG s f n k)
|0,_=>.fail
|n+1,k=>.bind .ea λx=>match x with
  |none=>.pure
  |some v=>.bind (h v) λ_=>.bind (bH.dG h n (k+1)) λ_=>.pure
end
section
variable(q:Nat->Bool)(t:Nat)
mutual
noncomputable def dO:E->Bool
|.none=>true
|.bool _=>true
|.int _=>true
|.str _=>true
|.aa _=>true
|.glob _=>true
|.new _=>true
|.ay es=>iS es
|.af es=>iS es
|.az _ es=>iS es
|.ak _ a b=>dO a&&dO b
|.cmp _ a b=>dO a&&dO b
|.aq a b=>dO a&&dO b
|.slc a b c=>dO a&&dO b&&dO c
|.not a=>dO a
|.and es=>iS es
|.or es=>iS es
|.call f es=>q f&&iS es
|.cQ f o es=>q f&&dO o&&iS es
|.attr o _=>dO o
|.len a=>dO a
|.toInt a=>dO a
|.toStr a=>dO a
|.sum a=>dO a
|.hY a=>dO a
|.list a=>dO a
|.dict a=>dO a
|.comp a _ _ b=>dO a&&dO b
|_=>false
noncomputable def iS:EL->Bool
|.nil=>true
|.cons e r=>dO e&&iS r
end
mutual
noncomputable def w7:S->Bool
|.aK _ e=>dO q e
|.ik _ e=>dO q e
|.eX a b c=>dO q a&&dO q b&&dO q c
|.jQ a _ c=>dO q a&&dO q c
|.expr e=>dO q e
|.ite c a b=>dO q c&&oy a&&oy b
|.ret e=>dO q e
|.sb=>true
|.raise c _=>!decide (c=t)
|_=>false
noncomputable def oy:SL->Bool
|.nil=>true
|.cons s r=>w7 s&&oy r
end
end
def qf{P:Prop}(h:false=true):P:=absurd h cU
def qa{a b:Bool}(h:(a&&b)=true):a=true/\b=true:=Bool.and_eq_true_iff.mp h
section
variable{q:Nat->Bool}{t:Nat}{C:Ctx}(hC:∀f vs,q f=true->bH t (C.call f vs))
include hC
mutual
theorem dN:∀(x:E),dO q x=true->∀L,bH t (aj C x L)
|.none,_,_=>.pure
|.bool _,_,_=>.pure
|.int _,_,_=>.pure
|.str _,_,_=>.pure
|.aa _,_,_=>.dD
|.glob _,_,_=>.dD
|.new _,_,_=>.bind .dB λd=>(by cases d<;>first|exact .fail|exact .dB)
|.ay es,h,L=>.bind (pM es h L) λ_=>.ite .pure .fail
|.af es,h,L=>.bind (pM es h L) λ_=>.ite .dB .fail
|.az _ es,h,L=>.bind (pM es h L) λ_=>.ite .dB .fail
|.ak _ a b,h,L=>.bind (dN a (qa h).1 L) λ_=>.bind (dN b (qa h).2 L) λ_=>.binop
|.cmp _ a b,h,L=>.bind (dN a (qa h).1 L) λ_=>.bind (dN b (qa h).2 L) λ_=>.bind .dh λ_=>.pure
|.aq a b,h,L=>.bind (dN a (qa h).1 L) λ_=>.bind (dN b (qa h).2 L) λ_=>.index
|.slc a b c,h,L=>.bind (dN a (qa (qa h).1).1 L) λ_=>.bind (dN b (qa (qa h).1).2 L) λ_=>.bind (dN c (qa h).2 L) λ_=>.slice
|.not a,h,L=>.bind (dN a h L) λ_=>.bind .eg λ_=>.pure
|.and es,h,L=>DS es h L
|.or es,h,L=>EV es h L
|.call f es,h,L=>.bind (pM es (qa h).2 L) λvs=>hC f vs (qa h).1
|.cQ f o es,h,L=>.bind (dN o (qa (qa h).1).2 L) λx=>.bind .iH λ_=>.bind (pM es (qa h).2 L) λvs=>hC f _ (qa (qa h).1).1
|.attr o _,h,L=>.bind (dN o h L) λ_=>.bind .iH λ_=>.pure
|.len a,h,L=>.bind (dN a h L) λ_=>.lenOf
|.toInt a,h,L=>.bind (dN a h L) λ_=>.bind .eg λ_=>.pure
|.toStr a,h,L=>.bind (dN a h L) λ_=>.bind .dQ λ_=>.ite .pure .fail
|.sum a,h,L=>.bind (dN a h L) λ_=>.bind .bO λ_=>.bind .dD λ_=>.pure
|.hY a,h,L=>.bind (dN a h L) λ_=>.bind .bO λ_=>.bind .dD λ_=>.pure
|.list a,h,L=>.bind (dN a h L) λ_=>.rU
|.dict a,h,L=>.bind (dN a h L) λ_=>.oF
|.comp a v br b,h,L=>.bind (dN b (qa h).2 L) λ_=>.bind .srcOf λ_=>.bind .fh λ_=>.ite (.bind (.dG (λg=>.bind (dN a (qa h).1 _) λ_=>.pure) _ _) λ_=>.dB) .fail
|.neg _,h,_=>qf h
|.jh _ _ _ _ _,h,_=>qf h
|.max2 _ _,h,_=>qf h
|.d0 _ _,h,_=>qf h
|.tuple _,h,_=>qf h
|.join _ _,h,_=>qf h
|.get _ _ _,h,_=>qf h
|.fX _ _ _ _ _,h,_=>qf h
|.fZ _ _ _ _,h,_=>qf h
theorem pM:∀(x:EL),iS q x=true->∀L,bH t (dC C x L)
|.nil,_,_=>.pure
|.cons e r,h,L=>.bind (dN e (qa h).1 L) λ_=>.bind (pM r (qa h).2 L) λ_=>.pure
theorem DS:∀(x:EL),iS q x=true->∀L,bH t (oG C x L)
|.nil,_,_=>.fail
|.cons e .nil,h,L=>.bind (dN e (qa h).1 L) λ_=>.bind .eg λ_=>.pure
|.cons e (.cons y r),h,L=>.bind (dN e (qa h).1 L) λ_=>.bind .eg λ_=>.ite (DS (.cons y r) (qa h).2 L) .pure
theorem EV:∀(x:EL),iS q x=true->∀L,bH t (oS C x L)
|.nil,_,_=>.fail
|.cons e .nil,h,L=>.bind (dN e (qa h).1 L) λ_=>.bind .eg λ_=>.pure
|.cons e (.cons y r),h,L=>.bind (dN e (qa h).1 L) λ_=>.bind .eg λ_=>.ite .pure (EV (.cons y r) (qa h).2 L)
theorem tN:∀(x:E),dO q x=true->∀L,bH t (bQ C x L)
|.not a,h,L=>.bind (tN a h L) λ_=>.pure
|.and es,h,L=>DT es h L
|.or es,h,L=>DU es h L
|.cmp _ a b,h,L=>.bind (dN a (qa h).1 L) λ_=>.bind (dN b (qa h).2 L) λ_=>.dh
|.bool _,_,_=>.pure
|.aa _,_,_=>.bind .dD λ_=>.eg
|.call f es,h,L=>.bind (.bind (pM es (qa h).2 L) λvs=>hC f vs (qa h).1) λ_=>.eg
|.aq a b,h,L=>.bind (.bind (dN a (qa h).1 L) λ_=>.bind (dN b (qa h).2 L) λ_=>.index) λ_=>.eg
|.d0 _ _,h,_=>qf h
|.jh _ _ _ _ _,h,_=>qf h
|.none,_,_=>.fail
|.int _,_,_=>.fail
|.str _,_,_=>.fail
|.glob _,_,_=>.fail
|.ay _,_,_=>.fail
|.af _,_,_=>.fail
|.az _ _,_,_=>.fail
|.ak _ _ _,_,_=>.fail
|.neg _,_,_=>.fail
|.slc _ _ _,_,_=>.fail
|.cQ _ _ _,_,_=>.fail
|.new _,_,_=>.fail
|.attr _ _,_,_=>.fail
|.len _,_,_=>.fail
|.toInt _,_,_=>.fail
|.toStr _,_,_=>.fail
|.sum _,_,_=>.fail
|.hY _,_,_=>.fail
|.max2 _ _,_,_=>.fail
|.list _,_,_=>.fail
|.tuple _,_,_=>.fail
|.dict _,_,_=>.fail
|.join _ _,_,_=>.fail
|.get _ _ _,_,_=>.fail
|.comp _ _ _ _,_,_=>.fail
|.fX _ _ _ _ _,_,_=>.fail
|.fZ _ _ _ _,_,_=>.fail
theorem DT:∀(x:EL),iS q x=true->∀L,bH t (kx C x L)
|.nil,_,_=>.pure
|.cons e r,h,L=>.bind (tN e (qa h).1 L) λ_=>.ite (DT r (qa h).2 L) .pure
theorem DU:∀(x:EL),iS q x=true->∀L,bH t (ky C x L)
|.nil,_,_=>.pure
|.cons e r,h,L=>.bind (tN e (qa h).1 L) λ_=>.ite .pure (DU r (qa h).2 L)
end
abbrev fp{α:Type}(t:Nat)(m:Qh.N α):Prop:=∀L U L' a,m L U≠.aF t L' a
omit hC in
def fp.lift{α b:Type}{m:aP->M α}{f:α->Qh.N b}(h:∀L,bH t (m L))(c:∀a,fp t (f a)):fp t (Qh.N.bind (Qh.N.lift m) f):=λL U d g e=>by
 rcases q7 e with ⟨_,z⟩|⟨a,i,_,z⟩
 ·exact h L _ _ z
 ·exact c a _ _ _ _ z
omit hC in
def fp.bind{α b:Type}{m:Qh.N α}{f:α->Qh.N b}(h:fp t m)(c:∀a,fp t (f a)):fp t (Qh.N.bind m f):=λL U d g e=>by
 rcases vC e with z|⟨a,i,j,_,z⟩
 ·exact h _ _ _ _ z
 ·exact c a _ _ _ _ z
omit hC in
def fp.pure{α:Type}{a:α}:fp t (Qh.N.pure a):=λ_ _ _ _ e=>~~~js e
omit hC in
def fp.fail{α:Type}:fp t (Qh.N.fail:Qh.N α):=λ_ _ _ _ e=>~~~uP e
omit hC in
def fp.put{i:Nat}{v:V}:fp t (Qh.N.put i v):=λ_ _ _ _ e=>~~~js e
omit hC in
def fp.gm:∀{is:List Nat}{vs:List V},fp t (Qh.N.gm is vs)
|[],[]=>.pure
|i::is,v::vs=>.bind .put λ_=>fp.gm
|[],_::_=>.fail
|_::_,[]=>.fail
mutual
theorem zN:∀(x:S),w7 q t x=true->fp t (cT C x)
|.aK _ e,h=>.lift (dN hC e h) λ_=>.bind .put λ_=>.pure
|.ik is e,h=>.lift (dN hC e h) λv=>(by cases v<;>first|exact .fail|exact .bind .gm λ_=>.pure|exact .lift (λ_=>.bO) λ_=>.bind .gm λ_=>.pure)
|.eX a b c,h=>.lift (dN hC c (qa h).2) λ_=>.lift (dN hC a (qa (qa h).1).1) λ_=>.lift (dN hC b (qa (qa h).1).2) λ_=>.lift (λ_=>.iB) λ_=>.pure
|.jQ a _ c,h=>.lift (dN hC c (qa h).2) λ_=>.lift (dN hC a (qa h).1) λ_=>.lift (λ_=>.bind .iH λ_=>.bind .dQ λ_=>.jg) λ_=>.pure
|.expr e,h=>.lift (dN hC e h) λ_=>.pure
|.ite c a b,h=>.lift (tN hC c (qa (qa h).1).1) λv=>(by cases v<;>first|exact vR b (qa h).2|exact vR a (qa (qa h).1).2)
|.ret e,h=>.lift (dN hC e h) λ_=>.pure
|.sb,h=>.pure
|.raise c _,h=>λL U j k e=>by
  have h:(!decide (c=t))=true:=h;refine xX e λg i d=>?_;(clear zN hC;subst g);subst i;subst d;simp at h
|.append _ _,h=>qf h
|.update _ _,h=>qf h
|.sa _ _,h=>qf h
|.iL _ _ _,h=>qf h
|.eV _ _ _,h=>qf h
|.uv _ _ _ _ _,h=>qf h
|.hZ _ _ _,h=>qf h
theorem vR:∀(x:SL),oy q t x=true->fp t (a8 C x)
|.nil,_=>.pure
|.cons s r,h=>.bind (zN s (qa h).1) λf=>(by cases f<;>first|exact vR r (qa h).2|exact .pure)
end
end
def DV{P:Prog}{sc:List Int}{q:Nat->Bool}{t:Nat}(h:∀f fn,P.fns f=some fn->q f=true->oy q t fn.body=true):∀n f vs,q f=true->bH t (av P sc n f vs)
|0,f,vs,_=>.fail
|n+1,f,vs,a=>by
  cases hf:P.fns f with
  |none=>simp only[av,hf];exact .fail
  |some fn=>
   simp only[av,hf];refine .ite (λU b e=>?_) .fail;have e:cp (a8 _ fn.body _ U)=.aF t b:=e;have c:=vR (C:=#[sc,P.consts,av P sc n,P.fC,P.qg]) (DV h n) fn.body (h f fn hf a) (vs.map some++List.replicate (fn.slots-fn.arity) none) U;generalize a8 #[sc,P.consts,av P sc n,P.fC,P.qg] fn.body (vs.map some++List.replicate (fn.slots-fn.arity) none) U=r at e c;cases r with
   |ok f L U=>(clear c;cases f)<;>(first|exact sv e|exact lM e|cases e)
   |aF c' L' i=>(refine BE e λd g=>?_;(clear h;subst d);subst g);exact c _ _ rfl
   |bad=>exact lM e
abbrev EW:List Value:=[.type "ValueError",.type "Exception",.type "BaseException",.type "object"]
structure lO(G:Gd):Prop where
 aF:∃mg,G.hb.Ns mainGlobals mg/\OwnClsQ "TooGreat" (G.cA 1) EW "ValueError.__new__" mg G.hb
 has:∀f,G.xf f->∃fn,G.P.fns f=some fn
 calm:∀n f vs,G.P.fC (f+1)=4->bH G.tg (av G.P G.script n f vs)
def lO.re(W:lO G)(R:List Addr):lO (G.re R):=#[W.aF,W.has,W.calm]
section
variable{G:Gd}{n:Nat}{A:Around}{N:List Str}{env:Env}{s:Shared}{J aA:List Addr}{U ah:H}{h h':Heap}{L L':aP}{outer:List Env}{E:bN}
def GD{a:Str->Option Value}{p:Pos}{M:Model}(b:s.heap.Ns mainGlobals a)(c:a "TooGreat"=some (.ref (G.cA 1)))(kind:env.scope.kind=.function)(glob:env.globals=mainGlobals)(hk:env.kindOf "TooGreat"=some .globalImplicit)(k:Q (.ref (G.cA 1)) s):wpAny M A (eval (.Name "TooGreat" p) env) Q E s:=by refine wpAny_Name ?_ (by decide+kernel);exact(loadName_read kind hk)▸Calls.loadGlobal_global (by(refine glob▸?_);exact b) c k
def Mx{c:Nat}{m a:Str}(W:lO G)(Y:Ao A n)(hk:env.kindOf "TooGreat"=some .globalImplicit):
  gQ G n A N env (.raise c m) (.Raise (some (.Call (.Name "TooGreat" np) [.Constant (.str a) k ap] [] cpos)) none pos):=λs J U L L' ah outer Q E X S F sep f px=>by
 refine xX f λg i b=>?_;(clear f;subst g);subst i;subst b;refine bB λv j=>aQ (W.aF) λw l O=>?_;obtain⟨o,p,nm,q,bs,hdct,sn,sub,ab,col,dd,k0,k1,k2,k3,k5,mN,r,t,d,T⟩:=O.own.obj;refine j ?_;refine wpAny_Raise_call_subT (C:=G.cA 1) (nm:=nm) (q:=q) (N:=p) (bs:=bs) (bm:=o) (hdct:=hdct) (sn:=sn) (sub:=sub) (ab:=ab) (col:=col) (dd:=dd) (k0:=k0) (k1:=k1) (k2:=k2) (k3:=k3) (k5:=k5)
  PySem.F.excBase_ValueError (mN:=mN) (T.hasType PySem.F.excBase_ValueError.hasBase) Y.hh rfl d (GD (l.keeps S.base) O.own.bound X.kind X.glob hk #[rfl,?_])
 exact Calls.evalArgs_plain (spliced_more (wpAny_Constant_str (spliced_none #[rfl,nb rfl,S.base _ _ r,t.keeps S.base,T.keeps S.base,λh' e u=>px e s.heap h' _ J (d5.refl _ _ _) S X (.made u)])))
structure ql(W:List Addr)(h h':Heap):Prop where
 keep:∀b o,h.get? b=some o->b∉W->h'.get? b=some o
 up:h.UpToSlots h'
def ql.ay(k:ql W h h'):∀a xs,IsTup h a xs->IsTup h' a xs:=λa xs #[o,e,c,m,d]=>by
 exact cb (k.up a o e λf q=>by(replace q:=d▸q);cases q) λg b=>#[_,b,c,m,d]
def ql.cell(k:ql W h h')(x:h.IsCell c v):h'.IsCell c v:=by refine bB λf a=>aQ (x) λo e d=>cb (k.up c o e λg q=>by(replace q:=d▸q);cases q) λi b=>a ?_;exact#[_,b,d]
def aI.qm(S:aI G J U h)(k:ql W h h')(own:∀b∈W,b∉J)(new:∀b∈W,G.hb.get? b=none):aI G J U h':=
 #[λb o e=>k.keep b o (S.base b o e) (λq=>by(replace e:=(new b q)▸e);exact bR e),S.len,S.nodup,S.new,λi a o c d=>(S.rep i a o c d).keeps (λf e=>k.keep a f e λq=>own a q (List.mem_of_getElem? c)) k.ay λ_ _ e=>e,λa g=>let #[xs,q]:=S.lr a g;#[xs,k.ay _ _ q],S.mG]
def bC.move(X:bC G N env J h L)(w:∀m,h.Ns env.locals m->h'.Ns env.locals m)(y:∀c v,h.IsCell c v->c∉J->h'.IsCell c v)(l:∀v u,Rel G J h v u->Rel G aA h' v u)(p:∀a,a∉J->h.get? a≠none->a∉aA):bC G N env aA h' L:=by
 refine aQ (X.ns) λm t z=>#[X.kind,X.glob,X.blt,#[m,w m t,λi u x g j B=>?_],λx f=>?_,X.has,X.apart,X.nodup,p _ X.kC ?_,λx c f b=>p _ (X.kD x c f b) ?_,X.newL,X.jl]
 ·exact aQ (z i u x g j B) λv q r=>#[v,q,l v u r]
 ·refine dk (X.cl x f) λc k d C D=>#[c,k,d,y c k C (X.kD x c f d),λi u g j=>?_];exact aQ (D i u g j) λv q r=>#[v,q,l v u r]
 ·refine g9 (t) λo _ _ e _=>?_
  (refine e▸?_);simp
 ·obtain⟨c',k,d,⟨o,e,_⟩,_⟩:=X.cl x f;(replace d:=b▸d);(refine d7 d λF=>?_;(clear b d;subst F))
  (refine e▸?_);simp
def bC.qm(X:bC G N env J h L)(k:ql W h h'):bC G N env J h' L:=
 X.move (λ_ q=>k.up.ns q) (λ_ _ q _=>k.cell q) (λ_ _ r=>r.mono k.ay λ_ _ e=>e) λ_ q _=>q
structure kA(env:Env)(W:List Addr)(J:List Addr)(h:Heap)(aA:List Addr)(h':Heap):Prop where
 pre:∃t,aA=J++t
 fresh:∀a∈aA,a∈J∨h.get? a=none
 keep:∀a o,h.get? a=some o->a∉J->a∉W->a≠env.locals->(∀x,env.kindOf x=some .cell->env.cells.lookup x≠some a)->h'.get? a=some o
 slot:∀a o,a∈W->h.get? a=some o->(∀vs,o.data≠.fields vs)->∃sl,h'.get? a=some {o with slots:=sl}
 mD:∀a,a∉J->h.get? a≠none->h'.get? a≠none
def d5.sB(F:Fs A env outer env.locals env J h)(sep:Sep outer env)(st:d5 env J h aA h'):kA env (places outer) J h aA h':=
 #[st.pre,st.fresh,λa o e c _=>st.keep a o e c,λa o b e _=>#[o.slots,st.keep a o e (F.own a (by
  refine aQ (List.mem_filterMap.mp b) λx d f=>?_
  exact List.mem_filterMap.mpr #[x,.tail _ d,f])) (sep a b).1 (sep a b).2],st.mD]
def kA.trans(x:kA env W J h aL aC)(y:kA env W aL aC eh bt):kA env W J h eh bt:=by
 have b:∀a,a∉J->h.get? a≠none->a∉aL:=λa c e q=>by
  rcases x.fresh a q with q|q
  ·exact c q
  ·exact e q
 refine cb (x.pre) λt m=>?_;subst m;obtain⟨p,rfl⟩:=y.pre;refine#[#[t++p,by simp],λa r=>?_,λa o e d f g i=>y.keep a o (x.keep a o e d f g i) (b a d (by(refine e▸?_);simp)) f g i,λa o j e k=>?_,λa c e=>y.mD a (b a c e) (x.mD a c e)]
 ·by_cases l:a∈J
  ·exact .inl l
  ·rcases y.fresh a r with q|q
   ·exact(x.fresh a q)
   ·refine .inr ?_;cases e:h.get? a with
    |none=>rfl
    |some o=>exact absurd q (x.mD a l (by(refine e▸?_);simp))
 ·exact cb (x.slot a o j e k) λz u=>cb (y.slot a _ j u k) λv w=>#[v,w]
def Fs.AN(sep:Sep outer env)(F:Fs A env outer env.locals env J h)(st:kA env (places outer) J h aA h')(X:bC G N env aA h' L):Fs A env outer env.locals env aA h':=by
 refine#[F.fr,F.fl,F.qK,?_,λb hb q=>?_]
 ·refine vi F.alive λb hb o e f=>?_
  by_cases q:b=env.locals
  ·refine aQ (X.ns) λm g _=>?_
   (refine q▸?_);exact wJ g
  ·have c:b∈places outer:=by
    refine aQ (List.mem_filterMap.mp hb) λx d a=>?_;rcases List.mem_cons.mp d with rfl|d
    ·(replace a:=(F.fl)▸a);exact absurd (Option.some.inj a).symm q
    ·exact List.mem_filterMap.mpr #[x,d,a]
   exact cb (st.slot b o c e f) λj i=>#[_,i,f]
 ·rcases st.fresh b q with q|q
  ·exact F.own b hb q
  ·refine aQ (n7 F.alive hb) λo e _=>?_;(replace q:=e▸q);exact ez q
abbrev PY(G:Gd)(N:List Str)(env:Env)(outer:List Env)(r:RN Fl)(J:List Addr)(s:Shared)(Q:Flow->Shared->Prop):Prop:=
 match r with
|.ok f L' ah=>∀fl h' tk aA,kA env (places outer) J s.heap aA h'->aI G aA ah h'->bC G N env aA h' L'->jn G aA h' fl f->Q fl {s with heap:=h',toks:=tk}
|_=>False
end
section
variable(G:Gd)(n:Nat)(A:Around)(N:List Str)(env:Env)
structure Hand(outer:List Env)(J:List Addr)(U:H)(h:Heap)(L:aP):Prop where
 X:bC G N env J h L
 S:aI G J U h
 F:Fs A env outer env.locals env J h
 sep:Sep outer env
 new:∀b∈places outer,G.hb.get? b=none
abbrev mS(x:S)(st:Stmt):Prop:=∀(s:Shared)(J:List Addr)(U:H)(L:aP)(outer:List Env)(Q:Flow->Shared->Prop)(E:bN),Hand G A N env outer J U s.heap L->
 PY G N env outer (cT (G.ctx n) x L U) J s Q->wpAny G.mo A (exec st env) Q E s
abbrev xy(x:SL)(a:List Stmt):Prop:=∀(s:Shared)(J:List Addr)(U:H)(L:aP)(outer:List Env)(Q:Flow->Shared->Prop)(E:bN),Hand G A N env outer J U s.heap L->
 PY G N env outer (a8 (G.ctx n) x L U) J s Q->wpAny G.mo A (execs a env) Q E s
end
section
variable{G:Gd}{n:Nat}{A:Around}{N:List Str}{env:Env}
def Hand.pS(H:Hand G A N env outer J U s.heap L)(p:PY G N env outer r J s Q):PS G N env r J s Q:=by
 cases r with
|ok f L' d=>exact λfl a b c st=>p fl a b c (st.sB H.F H.sep)
|aF _ _ _=>exact p
|bad=>exact p
def GF{x:Qh.S}{st:Stmt}(h:dU G n A N env x st):mS G n A N env x st:=λs J U L a Q E H p=>h s J U L Q E H.X H.S (H.pS p)
def PJ:xy G n A N env .nil []:=λs J U L a Q E H p=>zL s J U L Q E H.X H.S (H.pS p)
def NT{x:Qh.S}{r:SL}{st:Stmt}(m:mS G n A N env x st)(o:xy G n A N env r rest):xy G n A N env (.cons x r) (st::rest):=λs J U L a Q E H p=>by
 refine wpAny_execs_cons (m s J U L a _ E H ?_);have p:PY G N env a (Qh.N.bind (cT (G.ctx n) x) (λf=>match f with|.next=>a8 (G.ctx n) r|f=>Qh.N.pure f) L U) J s Q:=p;unfold Qh.N.bind at p;generalize cT (G.ctx n) x L U=w at p ⊢;cases w with
|aF _ _ _=>exact p
|bad=>exact p
|ok f d e=>
  have b:PY G N env a ((match f with|.next=>a8 (G.ctx n) r|f=>Qh.N.pure f) d e) J s Q:=p;intro fl i j g st h c q;cases q with
  |next=>
   refine o _ g e d a Q E #[c,h,H.F.AN H.sep st c,H.sep,H.new] ?_;have b:PY G N env a (a8 (G.ctx n) r d e) J s Q:=b;generalize a8 (G.ctx n) r d e=w at b ⊢;cases w with
   |ok f L' v=>exact λfl k t u l=>b fl k t u (st.trans l)
   |aF _ _ _=>exact b
   |bad=>exact b
  |ret r=>exact b _ i j g st h c (.ret r)
  |brk=>exact b _ i j g st h c .brk
  |cont=>exact b _ i j g st h c .cont
def PK{b hb:SL}{body g:List Stmt}(W:lO G)(h1:iN G n A N env b body)(hX:oL G n A N env b body)(h2:∀e,iN G n (A.mark (some e)) N env hb (UA::g))(hk:env.kindOf "TooGreat"=some .globalImplicit):
  mS G n A N env (.hZ b G.tg hb) (.Try body [.ExceptHandler (some (.Name "TooGreat" np)) none (UA::g) hp] [] [] p):=λs J U L outer Q E H c=>by
 have c:PY G N env outer (match a8 (G.ctx n) b L U with|.ok f L' i=>.ok f L' i|.aF c' L' i=>if c'=G.tg then a8 (G.ctx n) hb L' i else .bad|.bad=>.bad) J s Q:=c;refine wpAny_Try_except ?_;cases ev:a8 (G.ctx n) b L U with
|ok f L' i=>
  replace c:=ev▸c;refine h1 s J U L _ _ H.X H.S (ev▸?_);intro fl h' tk C st k h rf;have d:=st.sB H.F H.sep;cases rf with
  |next=>exact wpAny_execs_nil (c _ _ _ _ d k h .next)
  |ret r=>exact c _ _ _ _ d k h (.ret r)
  |brk=>exact c _ _ _ _ d k h .brk
  |cont=>exact c _ _ _ _ d k h .cont
|bad=>(replace c:=ev▸c);exact c.elim
|aF c' L' i=>
  replace c:=ev▸c;have c:PY G N env outer (if c'=G.tg then a8 (G.ctx n) hb L' i else .bad) J s Q:=c;have hc:c'=G.tg:=by
   by_cases q:c'=G.tg
   ·exact q
   ·(replace c:=(if_neg q)▸c);exact c.elim
  subst hc;replace c:=(if_pos rfl)▸c;refine hX s J U L L' i outer _ _ H.X H.S H.F H.sep ev λe D h' tk C st k h BR=>?_;have m:=H.F.jN H.sep st h;refine aQ (W.aF) λmg hg O=>vN m BR λbt base B y u=>flight y λdF K A5=>?_;have qm:∀{t:Heap}{fl:Value},gO base (env::outer) e (G.cA 1) fl t->D.UpToSlots t->ql (places (env::outer)) D t:=λy u=>#[λb o q R=>y.stays b o (B.sup b o q R),u];have new:∀b∈places (env::outer),G.hb.get? b=none:=λb hb=>by
   refine aQ (List.mem_filterMap.mp hb) λx l j=>?_;rcases List.mem_cons.mp l with rfl|l
   ·(replace j:=(m.fl)▸j);(apply fg j);exact h.newL
   ·exact H.new b (List.mem_filterMap.mpr #[x,l,j])
  have dI:=k.qm (qm K (u.trans A5)) m.own new;have Vx:∃I,dF.get? e=some I/\I.cls=.ref (G.cA 1):=by
   obtain⟨_,_,_,_,I,vs,T,oT,ts,he,⟨Y,_⟩,_⟩:=K;exact#[I,he,Y]
  refine handleBy_own (by decide+kernel) (GD (hg.keeps dI.base) O.own.bound h.kind h.glob hk #[rfl,O.keeps dI.base,Vx,?_]);refine flight K λt Tz UB=>?_;have v:=qm Tz ((u.trans A5).trans UB);have jd:kA env (places outer) C D C t:=by
   refine#[#[[],by simp],λ_ q=>.inl q,λa o q _ hw hl _=>v.keep a o q λhb=>?_,λa o _ q y=>v.up a o q y,λa _ q z=>?_]
   ·refine aQ (List.mem_filterMap.mp hb) λx l j=>?_;rcases List.mem_cons.mp l with rfl|l
    ·(replace j:=(m.fl)▸j);(refine d7 j λaO=>?_;(clear hw q;subst aO));exact hl rfl
    ·exact hw (List.mem_filterMap.mpr #[x,l,j])
   ·cases q':D.get? a with
    |none=>exact q q'
    |some o=>
     by_cases hb:a∈places (env::outer)
     ·refine aQ (n7 m.alive hb) λo' e' R=>cb (v.up a o' e' R) λJw e2=>?_;(replace z:=e2▸z);exact ez z
     ·(replace z:=(v.keep a o q' hb)▸z);exact ez z
  have ia:=k.qm v m.own new;have jm:=h.qm v;have Jx:=(st.sB H.F H.sep).trans jd;refine h2 (.ref e) {s with heap:=t,toks:=tk} C i L' Q _ jm ia ?_;generalize a8 (G.ctx n) hb L' i=w at c ⊢;cases w with
  |ok f Vk da=>exact λfl Z fP ux d=>c fl Z fP ux (Jx.trans (d.sB (H.F.AN H.sep Jx jm) H.sep))
  |aF _ _ _=>exact c
  |bad=>exact c
end
abbrev fV.q(T:fV)(f:Nat):Bool:=decide (T.io (f+1)=4)
abbrev fV.x(T:fV)(f:Nat):Bool:=decide (T.io (f+1)=1)||decide (T.io (f+1)=4)
section
variable(T:fV)
mutual
noncomputable def xE:E->Bool
|.ay es=>sC es
|.af es=>sC es
|.ak _ a b=>xE a&&xE b
|.tuple a=>xE a
|.call f es=>T.x f&&sC es
|.cQ f o es=>dO T.q (.cQ f o es)||(T.x f&&xE o&&sC es&&!p7 es)
|.comp a _ _ b=>xE a&&xE b
|x=>dO T.q x
noncomputable def sC:EL->Bool
|.nil=>true
|.cons e r=>xE e&&sC r
end
abbrev xT:E->Bool
|.cmp _ a b=>xE T a&&xE T b
|x=>dO T.q x
mutual
noncomputable def xS:S->Bool
|.aK i x=>xE T x&&!rG x
|.expr x=>xE T x
|.ret x=>xE T x
|.ite c t e=>xT T c&&nI t&&nI e
|.eV _ e b=>dO T.q e&&nI b
|.raise _ _=>true
|x=>w7 T.q (T.io 0) x
noncomputable def nI:SL->Bool
|.nil=>true
|.cons x r=>xS x&&nI r
end
end
def fp.Jy{G:Gd}{n:Nat}{A:Around}{N:List Str}{env:Env}{x:S}{st:Stmt}(h:fp G.tg (cT (G.ctx n) x)):gQ G n A N env x st:=λs J U L c d a Q E X S F sep b px=>absurd b (h _ _ _ _)
def NU(h:(!p7 es)=true):es≠.nil:=λq=>by subst q;exact ff h
section
variable{G:Gd}{n:Nat}{A:Around}{N:List Str}
variable(bc:cP G)(F:jb G)(Y:Ao A n)(bT:∀R,k8 (G.re R) n)(W:lO G)(CX:qi G n)
include bc F Y bT W CX
omit bc F Y bT CX in
def vp:∀f vs,G.aE.q f=true->bH G.tg ((G.ctx n).call f vs):=λf vs h=>W.calm n f vs (of_decide_eq_true h)
omit bc F Y bT W CX in
def xA(h:G.aE.x f=true):G.xf f:=by
 rcases Bool.or_eq_true_iff.mp h with h|h
 ·exact .inl (of_decide_eq_true h)
 ·exact .inr (of_decide_eq_true h)
omit bc F Y bT CX in
def qX(h:dO G.aE.q x=true):eP G n A N env x e:=Rt (dN (vp W) x h)
mutual
theorem jC:∀(x:E){K:Kn}{e:au}{env:Env},dT env K->bz G.aE N x K e=true->xE G.aE x=true->eP G n A N env x e
|.ay es,K,e,env,Z,d,c=>Bd d λ_ _ _ h=>Pc (jB bc F Y (bT G.res) es Z h) (sX es Z h c)
|.af es,K,e,env,Z,d,c=>Be d λ_ _ h=>Pd (jB bc F Y (bT G.res) es Z h) (sX es Z h c)
|.ak op a b,K,e,env,Z,d,c=>Iw d λ_ _ _ i j=>Pe (bW bc F Y (bT G.res) a Z i) (jC a Z i (qa c).1) (bW bc F Y (bT G.res) b Z j) (jC b Z j (qa c).2)
|.tuple a,K,e,env,Z,d,c=>k1 Z d λ_ _ _ i j m=>Ml bc (bW bc F Y (bT G.res) a Z m) (jC a Z m c) i (ew j)
|.call f es,K,e,env,Z,d,c=>xx d λ_ _ _ _ _ i j m k p u=>
   let #[fn,z]:=W.has f (xA (qa c).1);Nz bc F Y CX (xA (qa c).1) (jB bc F Y (bT G.res) es Z i) (sX es Z i (qa c).2) z j (aV m).1 (Z.fu k) p (ew u)
|.cQ f o es,K,e,env,Z,d,c=>by
  rcases Bool.or_eq_true_iff.mp c with I|c
  ·exact qX W I
  ·refine Hw d λ_ _ _ _ _ w i j m k p u=>aX (qa c) λJ L=>?_;obtain⟨P,Q⟩:=qa J;refine aX (qa P) λD T=>?_;obtain⟨fn,z⟩:=W.has f (xA D);rcases Dg k with ⟨_,q⟩|⟨eZ,eD,rfl,q,U⟩
   ·exact absurd q (NU L)
   ·exact NK bc F Y CX (xA D) (bW bc F Y (bT G.res) o Z p) (jC o Z p T) (jB bc F Y (bT G.res) es Z u) (sX es Z u Q) z w (not_iff (aV i).1) (EU j) m q U
|.comp elt v br src,K,e,env,Z,d,c=>tU Z (fi:=λl _=>l.isEmpty) (f:=bz G.aE N src K) (g:=λs y=>bz G.aE N elt (gv K s.names) y) d λ_ _ _ _ ifs _ _ w i j B k=>by
   have X:ifs=[]:=List.isEmpty_iff.mp w;clear w;subst X;exact NB Y (bW bc F Y (bT G.res) src Z i) (jC src Z i (qa c).2) B j (λcl C=>bW bc F Y (bT G.res) elt (Z.inner B cl C) k) λcl C=>jC elt (Z.inner B cl C) k (qa c).1
|.none,K,e,env,Z,d,c=>qX W c
|.bool _,K,e,env,Z,d,c=>qX W c
|.int _,K,e,env,Z,d,c=>qX W c
|.str _,K,e,env,Z,d,c=>qX W c
|.aa _,K,e,env,Z,d,c=>qX W c
|.glob _,K,e,env,Z,d,c=>qX W c
|.az _ _,K,e,env,Z,d,c=>qX W c
|.neg _,K,e,env,Z,d,c=>qX W c
|.cmp _ _ _,K,e,env,Z,d,c=>qX W c
|.jh _ _ _ _ _,K,e,env,Z,d,c=>qX W c
|.not _,K,e,env,Z,d,c=>qX W c
|.and _,K,e,env,Z,d,c=>qX W c
|.or _,K,e,env,Z,d,c=>qX W c
|.aq _ _,K,e,env,Z,d,c=>qX W c
|.slc _ _ _,K,e,env,Z,d,c=>qX W c
|.new _,K,e,env,Z,d,c=>qX W c
|.attr _ _,K,e,env,Z,d,c=>qX W c
|.len _,K,e,env,Z,d,c=>qX W c
|.toInt _,K,e,env,Z,d,c=>qX W c
|.toStr _,K,e,env,Z,d,c=>qX W c
|.sum _,K,e,env,Z,d,c=>qX W c
|.hY _,K,e,env,Z,d,c=>qX W c
|.max2 _ _,K,e,env,Z,d,c=>qX W c
|.d0 _ _,K,e,env,Z,d,c=>qX W c
|.list _,K,e,env,Z,d,c=>qX W c
|.dict _,K,e,env,Z,d,c=>qX W c
|.join _ _,K,e,env,Z,d,c=>qX W c
|.get _ _ _,K,e,env,Z,d,c=>qX W c
|.fX _ _ _ _ _,K,e,env,Z,d,c=>qX W c
|.fZ _ _ _ _,K,e,env,Z,d,c=>qX W c
theorem sX:∀(es:EL){K:Kn}{l:List au}{env:Env},dT env K->jO G.aE N es K l=true->sC G.aE es=true->mE G n A N env es l
|.nil,K,l,env,Z,d,c=>Pb λ_=>.pure
|.cons x r,K,l,env,Z,d,c=>by
  cases l with
  |nil=>exact qf d
  |cons e t=>
   exact aX (aV (show(du e&&bz G.aE N x K e&&jO G.aE N r K t)=true from d)) λi j=>aX (aV i) λm k=>Nx (bW bc F Y (bT G.res) x Z k) (jC x Z k (qa c).1) (jB bc F Y (bT G.res) r Z j) (sX r Z j (qa c).2) (ew m)
end
def NV(x:E){K:Kn}{e:au}(Z:dT env K)(g:mQ G.aE N x K e=true)(c:xT G.aE x=true):xH G n A N env x e:=by
 cases x with
|cmp op a b=>exact Bf g λ_ _ _ d f h=>Ny (bW bc F Y (bT G.res) a Z d) (jC bc F Y bT W CX a Z d (qa c).1) (bW bc F Y (bT G.res) b Z f) (jC bc F Y bT W CX b Z f (qa c).2) h
|_=>exact Ru (tN (vp W) _ c)
omit bc F Y bT CX in
def lP{x:S}{st:Stmt}(h:w7 G.aE.q (G.aE.io 0) x=true):gQ G n A N env x st:=fp.Jy (zN (vp W) x h)
omit bc F bT CX in
def Ld{c:Nat}{m:Str}{K:Kn}{st:Stmt}{env:Env}(Z:dT env K)(b:oV G.aE N K (.raise c m) st=true):gQ G n A N env (.raise c m) st:=by
 have b:(!decide (c=G.tg)||(Ae st).any λy=>(gJ y).any λz=>blt K z.1 "TooGreat"&&GA z.2)=true:=b;rcases Bool.or_eq_true_iff.mp b with h|h
 ·exact fp.Jy λL U w B e=>by(refine xX e λl o f=>?_;(clear b;subst l);subst o;subst f);simp at h
 ·refine aQ (cW h) λy g i=>?_;replace g:=Mv g;obtain⟨p,rfl⟩:=g;obtain⟨⟨x,a⟩,j,h⟩:=cW i;refine fD (ER j) λC r e=>?_;clear j;subst (e);refine aX (rH Z (aV h).1) λt hk=>?_;clear h;subst (t);refine aQ (cW (aV h).2) λk d u=>fD (rq d) λq D v=>?_;clear d;subst (v);clear b i h;clear b;cases k with
  |str s=>exact Mx W Y hk
  |_=>exact ff u
mutual
theorem NW{K:Kn}(Z:dT env K):∀(x:S){st:Stmt},oV G.aE N K x st=true->xS G.aE x=true->gQ G n A N env x st
|.aK i x,st,d,a=>sk (P:=gQ G n A N env (.aK i x)) (f:=λt e=>tgt N K i t&&bz G.aE N x K e&&(ku e||rG x)) d λt e p h=>
   si (P:=λt=>gQ G n A N env (.aK i x) (.Assign [t] e p)) (aV (aV h).1).1 λ_ _ v w=>Ph (jC bc F Y bT W CX x Z (aV (aV h).1).2 (qa a).1) (qT ((Bool.or_eq_true_iff.mp (aV h).2).resolve_right λq=>by have:=not_iff (qa a).2;rw[q] at this;exact tf this) ..)
|.expr x,st,d,a=>xP d λe p h=>NG (jC bc F Y bT W CX x Z (aV h).1 a) (vc Z) (qT (aV h).2 ..)
|.ret x,st,d,a=>Bg d λ_ _ h=>Pj (jC bc F Y bT W CX x Z h a)
|.ite c t e,st,d,a=>Iz d λ_ _ _ _ j o C=>Pk (rI bc F Y (bT G.res) c Z j) (NV bc F Y bT W CX c Z j (qa (qa a).1).1) (q8 Z t o (qa (qa a).1).2) (q8 Z e C (qa a).2)
|.eV i x b,st,d,a=>BQ (P:=gQ G n A N env (.eV i x b)) (f:=λt k=>tgt N K i t&&(gJ k).any (λz:Str×au=>blt K z.1 "range"&&du z.2&&bz G.aE N x K z.2)) (g:=gK G.aE N K b) d λt k B p h hb=>
   si (P:=λt=>gQ G n A N env (.eV i x b) (.For t k B [] p)) (aV h).1 λy D v w=>k1 (P:=λk=>gQ G n A N env (.eV i x b) (.For (.Name y D) k B [] p)) Z (y:="range") (aV h).2 λ_ _ _ hk I T=>NI bc Y (bW bc F Y (bT G.res) x Z T) (dN (vp W) x (qa a).1) (n8 bc F Y bT Z b hb G.res) (q8 Z b hb (qa a).2) v (Z.fw w) hk (ew I)
|.raise c m,st,d,a=>Ld Y W Z d
|.ik _ _,st,d,a=>lP W a
|.eX _ _ _,st,d,a=>lP W a
|.jQ _ _ _,st,d,a=>lP W a
|.append _ _,st,d,a=>lP W a
|.update _ _,st,d,a=>lP W a
|.sa _ _,st,d,a=>lP W a
|.iL _ _ _,st,d,a=>lP W a
|.uv _ _ _ _ _,st,d,a=>lP W a
|.sb,st,d,a=>lP W a
|.hZ _ _ _,st,d,a=>lP W a
theorem q8{K:Kn}(Z:dT env K):∀(x:SL){l:List Stmt},gK G.aE N K x l=true->nI G.aE x=true->oL G n A N env x l
|.nil,l,d,a=>λs J U L L' ah u Q E X S F sep ev px=>~~~js ev
|.cons x r,l,d,a=>by
  cases l with
  |nil=>exact qf d
  |cons st t=>
   exact aX (aV (show(oV G.aE N K x st&&gK G.aE N K r t)=true from d)) λj o=>Mo (wK bc F Y bT Z x j G.res) (NW Z x j (qa a).1) (q8 Z r o (qa a).2)
end
end
structure Lay(G:Gd)(A:Around)(l:List Env)(J:List Addr)(h:Heap):Prop where
 fr:A.frames=some l
 alive:h.FunFrames hp0 l
 own:∀b∈places l,b∉J
structure AP(W:List Addr)(J:List Addr)(h:Heap)(aA:List Addr)(h':Heap):Prop where
 pre:∃t,aA=J++t
 fresh:∀a∈aA,a∈J∨h.get? a=none
 keep:∀a o,h.get? a=some o->a∉J->a∉W->h'.get? a=some o
 slot:∀a o,a∈W->h.get? a=some o->(∀vs,o.data≠.fields vs)->∃sl,h'.get? a=some {o with slots:=sl}
abbrev BS(G:Gd)(l:List Env)(r:Res V)(J:List Addr)(s:Shared)(Q:bN):Prop:=match r with
|.ok u c=>∀v a tk b,AP (places l) J s.heap b a->aI G b c a->Rel G b a v u->Q v {s with heap:=a,toks:=tk}
|_=>False
abbrev uk(G:Gd)(n:Nat):Prop:=∀(A:Around),Ao A n->∀(l:List Env)(f:Nat),G.P.fC (f+1)=2->∀(vs:List V)(vals:List Value)(s:Shared)(J:List Addr)(U:H)(Q:bN)(E:bN),aI G J U s.heap->bL G J s.heap vals vs->Lay G A l J s.heap->(∀b∈places l,G.hb.get? b=none)->
 BS G l (av G.P G.script n f vs U) J s Q->wpAny G.mo A (call (.ref (G.fA f)) vals) Q E s
abbrev Hx:ExceptHandler->Option (au×List Stmt)
|.ExceptHandler (some t) none b _=>some (t,b)
|_=>none
def NX(e:Hx h=some x):∃p,h=.ExceptHandler (some x.1) none x.2 p:=by
 obtain⟨t,nm,b,p⟩:=h;cases t with
|none=>exact bR e
|some t=>cases nm with
  |none=>(apply fg e);exact#[p,rfl]
  |some _=>exact bR e
abbrev Hz:E->Bool
|.af .nil=>true
|.aq (.aa _) (.int _)=>true
|_=>false
abbrev HA:SL->Option E
|.cons (.ret x) .nil=>some x
|_=>none
def NY(h:HA b=some x):b=.cons (.ret x) .nil:=by
 cases b with
|nil=>exact bR h
|cons s r=>cases s<;>first|(cases r<;>first|((first|exact bR h|(apply fg h)|cases h);rfl)|exact bR h)|cases h
abbrev GG:E->Option (Nat×EL)
|.call f es=>some (f,es)
|_=>none
def My(h:GG x=some y):x=.call y.1 y.2:=by cases x<;>first|((first|exact bR h|(apply fg h)|cases h);rfl)|exact bR h
section
variable(T:fV)(N:List Str)(K:Kn)
abbrev IA:List Stmt->Option Stmt
|[e]=>some e
|_=>none
def PM(h:IA l=some e):l=[e]:=by
 match l with
|[_]=>(apply fg h);rfl
|[]=>exact bR h
|_::_::_=>exact bR h
abbrev GH(b:SL)(c:Nat)(h:SL)(st:Stmt):Bool:=decide (c=T.io 0)&&fu K "TooGreat"&&(Iv st).any λy=>gK T N K b y.1&&nI T b&&(Hx y.2).any λz=>(nameOf z.1).any (λw=>decide (w=("TooGreat":Str)))&&(HA h).any λx=>Hz x&&(IA z.2).any λa=>(xN a).any λr=>r.any λe=>bz T N x K e
abbrev PN(i f:Nat)(es:EL)(st:Stmt):Bool:=decide (T.io (f+1)=2)&&(oU st).any λy=>tgt N K i y.1&&(oM y.2).any λx=>jO T N es K x.2&&decide (T.fN f=x.1)&&T.fq f&&fu K x.1&&kz x.1&&w4 x.2
abbrev AQ:S->Stmt->Bool
|.hZ b c h,st=>GH T N K b c h st
|.aK i x,st=>(GG x).any (λy=>PN T N K i y.1 y.2 st)||oV T N K (.aK i x) st
|x,st=>oV T N K x st
abbrev uE:SL->List Stmt->Bool
|.nil,l=>l.isEmpty
|.cons x r,l=>match l with|st::t=>AQ T N K x st&&uE r t|[]=>false
abbrev uF(k:Nat)(b:SL)(l:List Stmt):Bool:=bif decide (k=2) then uE T N K b l else gK T N K b l&&(!decide (k=1)||nI T b)
end
def PO{h b:Heap}{a:Addr}(k:∀o,h.get? a=some o->(∀vs,o.data≠.fields vs)->∃c,b.get? a=some {o with slots:=c})(e:h.Ns a m):b.Ns a m:=by exact gi (e) λo f g i d r=>cb (k o i λvs q=>by(replace q:=d▸q);cases q) λc j=>#[_,f,g,j,d,r]
section
variable{G:Gd}{n:Nat}{A:Around}{N:List Str}{env:Env}
def Hand.lay(H:Hand G A N env outer J U h L):Lay G A (env::outer) J h/\∀b∈places (env::outer),G.hb.get? b=none:=
 #[#[H.F.fr,H.F.alive,H.F.own],λb hb=>by
  refine aQ (List.mem_filterMap.mp hb) λx c a=>?_;rcases List.mem_cons.mp c with rfl|c
  ·(replace a:=(H.F.fl)▸a);(apply fg a);exact H.X.newL
  ·exact H.new b (List.mem_filterMap.mpr #[x,c,a])]
def Hand.step(H:Hand G A N env outer J U h L)(st:Step J h aA h')(S:aI G aA ah h'):Hand G A N env outer aA ah h' L:=#[H.X.step H.S st,S,H.F.step st,H.sep,H.new]
def Hand.TA{outer:List Env}{J f:List Addr}{U y:H}(H:Hand G A N env outer J U h L)(st:AP (places (env::outer)) J h f h')(S:aI G f y h'):Hand G A N env outer f y h' L/\kA env (places outer) J h f h':=by
 have ay:∀a xs,IsTup h a xs->IsTup h' a xs:=λa xs #[o,e,c,m,d]=>by
  by_cases b:a∈places (env::outer)
  ·exact cb (st.slot a o b e λI q=>by(replace q:=d▸q);cases q) λB j=>#[_,j,c,m,d]
  ·refine#[o,st.keep a o e (λq=>?_) b,c,m,d];exact H.S.ay #[o,e,c,m,d] q
 have get:∀(i:Nat)(a:Addr),J[i]?=some a->f[i]?=some a:=λi a e=>by
  refine cb (st.pre) λt K=>?_;clear S st;subst K;rw[List.getElem?_append_left (List.getElem?_eq_some_iff.mp e).1];exact e
 have cl:∀c v,h.IsCell c v->c∉J->h'.IsCell c v:=λc v #[o,e,d] k=>by
  by_cases b:c∈places (env::outer)
  ·exact cb (st.slot c o b e λI q=>by(replace q:=d▸q);cases q) λB j=>#[_,j,d]
  ·exact#[o,st.keep c o e k b,d]
 have C:bC G N env f h' L:=H.X.move (λm q=>PO (λo e d=>st.slot _ o (List.mem_filterMap.mpr #[env,.head _,H.F.fl]) e d) q) cl (λv u r=>r.mono ay get) λa k e q=>by
  rcases st.fresh a q with q|q
  ·exact k q
  ·exact e q
 have sub:∀a,a∈places outer->a∈places (env::outer):=λa Q=>by
  exact aQ (List.mem_filterMap.mp Q) λx l g=>List.mem_filterMap.mpr #[x,.tail _ l,g]
 have p:∀a,a∉places outer->a≠env.locals->a∉places (env::outer):=λa s w q=>by
  refine aQ (List.mem_filterMap.mp q) λx l g=>?_;rcases List.mem_cons.mp l with rfl|l
  ·(replace g:=(H.F.fl)▸g);exact w (Option.some.inj g).symm
  ·exact s (List.mem_filterMap.mpr #[x,l,g])
 have D:kA env (places outer) J h f h':=#[st.pre,st.fresh,λa o e s w R _=>st.keep a o e s (p a w R),λa o b e d=>st.slot a o (sub a b) e d,λa k e z=>by
  by_cases b:a∈places (env::outer)
  ·refine aQ (n7 H.F.alive b) λo j d=>cb (st.slot a o b j d) λB T=>?_;(replace z:=T▸z);exact ez z
  ·cases q:h.get? a with
   |none=>exact e q
   |some o=>(replace z:=(st.keep a o q k b)▸z);exact ez z]
 exact#[#[C,S,H.F.AN H.sep D C,H.sep,H.new],D]
def PQ(K:cP G)(w:jb G)(Y:Ao A n)(C:uk G n)(z:G.P.fC (f+1)=2)(B:gB G n A N env es (e::args))(D:G.fN f=x)(I:G.fq f=true)(hk:env.kindOf x=some .globalImplicit)(R:(x==("__debug__":Str))=false)(T:starEach (e::args) env=(false,eval e env)::starEach args env)(Z:N[i]?=some y)(hl:env.kindOf y=some .local∨env.kindOf y=some .cell):
  mS G n A N env (.aK i (.call f es)) (.Assign [.Name y p''] (.Call (.Name x p') (e::args) [] gP) p):=λs J U L a Q E H b=>by
 have b:PY G N env a (Qh.N.bind (Qh.N.lift λL=>M.bind (dC (G.ctx n) es L) λc=>av G.P G.script n f c) (λv=>Qh.N.bind (Qh.N.put i v) λ_=>Qh.N.pure Fl.next) L U) J s Q:=b;refine wpAny_Assign_Name ?_ rfl;unfold Qh.N.bind Qh.N.lift at b;simp only[] at b;cases e0:M.bind (dC (G.ctx n) es L) (λc=>av G.P G.script n f c) U with
|bad=>(replace b:=e0▸b);exact b.elim
|aF _ _=>(replace b:=e0▸b);exact b.elim
|ok u bP=>
  replace b:=e0▸b;have b:PY G N env a (.ok .next (cq L i u) bP) J s Q:=b;refine bB λXx aH=>bl (eJ e0) λc aw e1 k=>bl (vm k) λfn m l _=>bl (w f fn l) λo fd ho d=>aH (wpAny_Call_NameR (wpAny_Name (zK K H.S H.X hk l I D ?_) R));refine callWith_def d (B gP s J U L _ _ H.X H.S ?_) T;refine e1▸?_;intro g aC tk aL st h r;have j:=H.step st h;refine#[h.base _ _ ho,C A Y (env::a) f z c g {s with heap:=aC,toks:=tk} aL aw _ E h r j.lay.1 j.lay.2 ?_];refine k▸?_;intro v bt cJ eh cK q jR;exact aX (j.TA cK q) λt sY=>tj t.X q Z hl jR λdF fk d6 dI gf _ _=>b .next dF fk eh (((st.toS.sB H.F H.sep).trans sY).trans (d6.sB t.F H.sep)) dI gf .next
end
section
variable{G:Gd}{n:Nat}{A:Around}{N:List Str}
variable(bc:cP G)(F:jb G)(Y:Ao A n)(bT:∀R,k8 (G.re R) n)(W:lO G)(CX:qi G n)(CY:uk G n)
include bc F Y bT W CX CY
omit F Y bT W CX CY in
def PR{x:E}{K:Kn}(h:Hz x=true)(c:bz G.aE N x K e=true):a9 G n A N env x e:=by
 cases x with
|af es=>cases es with
  |nil=>
   refine Be c λl _ h=>?_;have h:l.isEmpty=true:=h;exact(List.isEmpty_iff.mp h)▸Gs Gu
  |cons _ _=>exact ff h
|aq a b=>cases a with
  |aa i=>cases b with
   |int j=>
    exact xO c λl r p d f g=>Bc (P:=λl=>a9 G n A N env (.aq (.aa i) (.int j)) (.Subscript l r p)) d λy k m o=>uj (P:=λr=>(∀a b q,r≠.Slice a b none q)->a9 G n A N env (.aq (.aa i) (.int j)) (.Subscript (.Name y k) r p)) f (λ_ _ s=>z8 bc (z7 m o) Gq s) g
   |_=>exact ff h
  |_=>exact ff h
|_=>exact ff h
omit CY in
def RE{b hb:SL}{c:Nat}{K:Kn}{st:Stmt}(Z:dT env K)(k:GH G.aE N K b c hb st=true):mS G n A N env (.hZ b c hb) st:=by refine bB λXx r=>aX (aV k) λl s=>aX (aV l) λm u=>?_;have v:c=G.tg:=of_decide_eq_true m;clear m l k;subst v;obtain⟨⟨body,hd⟩,g,y⟩:=cW s;replace g:=PI g;obtain⟨p,rfl⟩:=g;obtain⟨z,B⟩:=aV y;refine aX (aV z) λo C=>?_;obtain⟨⟨t,h⟩,a,D⟩:=cW B;refine cb (NX a) λI J=>?_;clear a;subst (J);obtain⟨L,i⟩:=aV D;refine aQ (cW L) λw q j=>cb (nQ q) λQ T=>?_;clear q;subst (T);have U:=of_decide_eq_true j;subst U;refine aQ (cW i) λx X VE=>?_;have e4:=NY X;subst e4;obtain⟨VG,VH⟩:=aV VE;refine aQ (cW VH) λd hs VI=>?_;have e5:=PM hs;subst (e5);exact r (Bg (P:=λd=>mS G n A N env (.hZ b G.tg (.cons (.ret x) .nil)) (.Try body [.ExceptHandler (some (.Name "TooGreat" Q)) none [d] I] [] [] p)) (f:=bz G.aE N x K) VI λe p' hc=>PK W (n8 bc F Y bT Z b o G.res) (q8 bc F Y bT W CX Z b o C) (λe'=>EM (Gy (PR bc VG hc)) zL) (Z.fu u))
def NZ{K:Kn}{env:Env}(Z:dT env K)(x:S){st:Stmt}(a:AQ G.aE N K x st=true):mS G n A N env x st:=by
 cases x with
|hZ b c h=>exact RE bc F Y bT W CX Z a
|aK i x=>
  rcases Bool.or_eq_true_iff.mp a with h|h
  ·obtain⟨⟨f,d⟩,g,k⟩:=cW h;have l:x=_:=My g;clear g h a;subst l;obtain⟨m,o⟩:=aV k;exact sk o λt e p j=>
    si (P:=λt=>mS G n A N env (.aK i (.call f d)) (.Assign [t] e p)) (aV j).1 λy q r s=>xx (P:=λe=>mS G n A N env (.aK i (.call f d)) (.Assign [.Name y q] e p)) (f:=jO G.aE N d K) (aV j).2 λ_ _ _ _ _ u v w z B C=>
    PQ bc F Y CY (of_decide_eq_true m) (jB bc F Y (bT G.res) d Z u) v w (Z.fu z) B (ew C) r (Z.fw s)
  ·exact GF (wK bc F Y bT Z _ h G.res)
|_=>exact GF (wK bc F Y bT Z _ a G.res)
def DW{K:Kn}(Z:dT env K):∀(x:SL){l:List Stmt},uE G.aE N K x l=true->xy G n A N env x l
|.nil,l,a=>by
  have b:l.isEmpty=true:=a;rw[List.isEmpty_iff] at b;(clear a;subst b);exact PJ
|.cons x r,l,a=>by
  cases l with
  |nil=>exact qf a
  |cons st t=>
   obtain⟨c,d⟩:=aV (show(AQ G.aE N K x st&&uE G.aE N K r t)=true from a);exact NT (NZ bc F Y bT W CX CY Z x c) (DW Z r d)
end
structure sm(G:Gd)(f:Nat)(fn:Fn)(fd:FuncData)(N:List Str)(body:List Stmt):Prop where
 obj:∃o,G.hb.get? (G.fA f)=some o/\o.data=.func fd
 yb:fd.body=.stmts body
 glob:fd.globals=mainGlobals
 blt:fd.builtins=builtinsNs
 bf:fd.closure=[]
 code:G.hb.CodeRec fd.code fd.qualname
 co:fd.scope.isCoroutine=false
 gen:fd.scope.isGenerator=false
 kind:fd.scope.kind=.function
 bind:∀vals:List Value,vals.length=fn.arity->bindArgs fd #[vals,[]]=pure ((N.take fn.arity).zip vals)
 nodup:N.Nodup
 len:N.length=fn.slots
 arity:fn.arity<=fn.slots
 params:(N.take fn.arity).all (fw fd.scope.names)=true
 yc:uF G.aE N fd.scope.names (G.P.fC (f+1)) fn.body body=true
def vq:∀(names:Kn)(n:Nat)(acc:List (Str×Addr))(x:Str),names.lookup x=some .cell∨(acc.lookup x).isSome=true->((cellsFrom n names acc).lookup x).isSome=true
|[],n,acc,x,h=>by
  rcases h with h|h
  ·exact bR h
  ·exact h
|(m,k)::r,n,acc,x,h=>by
  unfold cellsFrom
  by_cases hk:(k==NameKind.cell)=true
  ·refine(if_pos hk)▸vq r _ _ x ?_;rw[List.lookup_cons];cases hx:x==m with
   |true=>exact .inr rfl
   |false=>
    rcases h with h|h
    ·rw[List.lookup_cons,hx] at h;exact .inl h
    ·exact .inr h
  ·refine(if_neg hk)▸vq r _ _ x ?_;rcases h with h|h
   ·rw[List.lookup_cons] at h;cases hx:x==m with
    |true=>
     replace h:=hx▸h;simp only[Option.some.injEq] at h;subst h;exact absurd rfl hk
    |false=>(replace h:=hx▸h);exact .inl h
   ·exact .inr h
def N0(d:Str->Option NameKind):∀(ps:List Str)(a:List Value)(m:Str->Option Value)(i:Nat)(x:Str)(v:Value),ps.Nodup->ps[i]?=some x->a[i]?=some v->d x=some .local->bindL d (ps.zip a) m x=some v:=by
 have keep:∀(ps:List Str)(a:List Value)(m:Str->Option Value)(x:Str),x∉ps->bindL d (ps.zip a) m x=m x:=by
  intro ps
  induction ps with
  |nil=>intro a m x _;rfl
  |cons p ps e=>
   intro a m x j;cases a with
   |nil=>rfl
   |cons v a=>
    simp only[List.zip_cons_cons,bindL]
    (refine(e a _ x (λq=>j (.tail _ q)))▸?_)
    have f:x≠p:=λq=>j (q▸.head _)
    split<;>simp[f]
 intro ps
 induction ps with
|nil=>intro a m i x v _ h;simp at h
|cons p ps e=>
  intro a m i x v l g c k;cases a with
  |nil=>simp at c
  |cons w a=>
   simp only[List.zip_cons_cons,bindL];have b:=List.nodup_cons.mp l;cases i with
   |zero=>
    simp at g c;subst g c;refine(keep ps a _ p b.1)▸(if_pos k)▸?_;simp
   |succ i=>exact e a _ i x v b.2 (by simpa using g) (by simpa using c) k
def N1(d:Str->Option NameKind):∀(ps:List Str)(a:List Value)(m:Str->Option Value)(i:Nat)(x:Str)(v:Value),ps.Nodup->ps[i]?=some x->a[i]?=some v->d x≠some .local->bindC d (ps.zip a) m x=some v:=by
 have keep:∀(ps:List Str)(a:List Value)(m:Str->Option Value)(x:Str),x∉ps->bindC d (ps.zip a) m x=m x:=by
  intro ps
  induction ps with
  |nil=>intro a m x _;rfl
  |cons p ps e=>
   intro a m x j;cases a with
   |nil=>rfl
   |cons v a=>
    simp only[List.zip_cons_cons,bindC]
    (refine(e a _ x (λq=>j (.tail _ q)))▸?_)
    have f:x≠p:=λq=>j (q▸.head _)
    split<;>simp[f]
 intro ps
 induction ps with
|nil=>intro a m i x v _ h;simp at h
|cons p ps e=>
  intro a m i x v l g c k;cases a with
  |nil=>simp at c
  |cons w a=>
   simp only[List.zip_cons_cons,bindC];have b:=List.nodup_cons.mp l;cases i with
   |zero=>
    simp at g c;subst g c;refine(keep ps a _ p b.1)▸(if_neg k)▸?_;simp
   |succ i=>exact e a _ i x v b.2 (by simpa using g) (by simpa using c) k
def Dh{vs:List V}{k i:Nat}(h:cy (vs.map some++List.replicate k none) i=some u):vs[i]?=some u:=by
 rw[FJ] at h
 by_cases a:i<vs.length
 ·rw[List.getElem?_append_left (by simpa using a)] at h
  simpa[List.getElem?_map,a] using h
 ·rw[List.getElem?_append_right (by simpa using a)] at h;rw[List.getElem?_replicate] at h
  split at h<;>simp at h
abbrev start(vs:List V)(fn:Fn):aP:=vs.map some++List.replicate (fn.slots-fn.arity) none
structure mT(G:Gd)(A:Around)(n:Nat)(N:List Str)(names:Kn)(fn:Fn)(vs:List V)(s:Shared)(J:List Addr)(U:H)(env:Env)(aC:Heap):Prop where
 Z:dT env names
 X:bC G N env J aC (start vs fn)
 S:aI G J U aC
 Y:Ao (A.deeper env) n
 fr:env.frame=some env.locals
 keep:∀b o,s.heap.get? b=some o->aC.get? b=some o
 newL:s.heap.get? env.locals=none
 jl:∀x c,env.cells.lookup x=some c->s.heap.get? c=none
section
variable{G:Gd}{n:Nat}{A:Around}{f:Nat}{fn:Fn}{fd:FuncData}{N:List Str}{body:List Stmt}{vs:List V}{vals:List Value}{s:Shared}{J aA:List Addr}{U:H}{env:Env}{aC h':Heap}{names:Kn}{Q:bN}{E:bN}
def call_in(Z:cP G)(X:sm G f fn fd N body)(a:vs.length=fn.arity)(Y:Ao A (n+1))(S:aI G J U s.heap)(T:bL G J s.heap vals vs)(k:∀env aC z,mT G A n N fd.scope.names fn vs s J U env aC->wpAny G.mo (A.deeper env) (execs body env) (λf s'=>Q (match f with|.ret v=>v|_=>.none) s')
   (λe s'=>wpAny G.mo (A.deeper env) (leaving env e) (λ_ j=>E e j) (λe' j=>E e' j) s') {s with heap:=aC,toks:=z}):wpAny G.mo A (call (.ref (G.fA f)) vals) Q E s:=by
 refine aQ (X.obj) λo ho p=>?_;have B:vals.length=fn.arity:=by(refine(T.length)▸?_;refine a▸?_;with_reducible rfl)
 have WM:(N.take fn.arity).length=fn.arity:=by(refine(List.length_take)▸?_;refine(X.len)▸?_);have:=X.arity;lia
 have d:∀x∈N.take fn.arity,fd.scope.names.lookup x=some .local∨fd.scope.names.lookup x=some .cell:=λx l=>by
  have:=List.all_eq_true.mp X.params x l;unfold fw at this
  simpa using this
 have r:(N.take fn.arity).Nodup:=(List.take_sublist _ _).nodup X.nodup;refine wpAny_call (codeAny_call_cells (by have:=Y.room;exact bD 0x34184c04904920534190106138c rfl this) (S.base _ _ ho) p (Z.nolimit.keeps S.base) (X.code.keeps S.base) X.yb (X.bind vals B) X.bf (λx l=>?_) (λbE I=>?_) X.co X.gen X.kind)
 ·have C:x.1∈N.take fn.arity:=(List.of_mem_zip (show(x.1,x.2)∈_ from l)).1;rcases d x.1 C with q|q
  ·exact .inl q
  ·exact .inr #[q,vq _ _ _ _ (.inl q)]
 ·refine fD (I.toInCall.same) λaC z aW=>?_;subst aW;have D:=I.toInCall.keep;have xq:bL G J aC vals vs:=T.step (Step.grow S D) S;have F:s.heap.objs.size<=(callEnvC fd s.heap.objs.size (G.fA f)).locals:=aU _;have K:∀x c,(callEnvC fd s.heap.objs.size (G.fA f)).cells.lookup x=some c->s.heap.objs.size<=c:=λx c b=>Nat.le_of_lt (I.above x c (mem_of_lookup b));have t:∀i u x,cy (start vs fn) i=some u->N[i]?=some x->(N.take fn.arity)[i]?=some x/\∃v,vals[i]?=some v/\Rel G J aC v u:=λi u x g m=>by
   have h:=Dh g;have L:i<fn.arity:=by(refine a▸?_);exact(List.getElem?_eq_some_iff.mp h).1
   refine#[by rw[List.getElem?_take,if_pos L];exact m,?_];exact xq.get h
  refine k _ aC z #[#[X.kind,rfl],?_,(S.grow D),#[Y.hh,by have:=Y.room;show A.depth+1+n+4<=_;exact bD 0x38190134184c04904920538190106134c rfl this,by have:=Y.units;show A.units+3+3*n+200<=_;exact bD 0x3812078c110d8c18cc0490492053812078c110184d8cc rfl this],rfl,D,Heap.get?_none_of_le F,λx c b=>Heap.get?_none_of_le (K x c b)];refine#[X.kind,X.glob,X.blt,#[_,I.toInCall.ns,λi u x g m h=>?_],λx l=>?_,λi u g=>?_,λx y c g m h w=>name_of_addr I.apart (mem_of_lookup h) (mem_of_lookup w),X.nodup,S.fresh F,λx c _ b=>S.fresh (K x c b),S.outside F,λx c _ b=>S.outside (K x c b)]
  ·obtain⟨w,v,P,R⟩:=t i u x g m;exact#[v,N0 _ _ _ _ i x v r w P h,R]
  ·obtain⟨c,b⟩:=Option.isSome_iff_exists.mp (vq fd.scope.names (s.heap.objs.size+1) [] x (.inl l));refine#[c,_,b,I.cell x c b,λi u g m=>?_];obtain⟨w,v,P,R⟩:=t i u x g m;exact#[v,N1 _ _ _ _ i x v r w P (by(refine l▸?_);simp),R]
  ·have h:=Dh g;have L:i<fn.arity:=by(refine a▸?_);exact(List.getElem?_eq_some_iff.mp h).1
   have hN:i<N.length:=by(refine(X.len)▸?_);have:=X.arity;exact bD 0xd06130124124124814e06130534e rfl L this
   refine#[N[i],List.getElem?_eq_getElem hN,d _ ?_];rw[List.mem_take_iff_getElem];exact#[i,by lia,rfl]
def mT.fresh(T:mT G A n N names fn vs s J U env aC)(h:aC.get? a=none):s.heap.get? a=none:=by
 cases e:s.heap.get? a with
|none=>rfl
|some b=>(replace h:=(T.keep _ _ e)▸h);exact ez h
def mT.back(T:mT G A n N names fn vs s J U env aC)(st:d5 env J aC aA h'):Step J s.heap aA h':=by
 refine#[st.pre,λa b=>(st.fresh a b).imp id T.fresh,λa c e d=>st.keep a c (T.keep _ _ e) d (λq=>?_) λx _ q=>?_]
 ·(replace e:=(T.newL)▸(q▸e));exact bR e
 ·(replace e:=(T.jl x a q)▸e);exact bR e
def mT.HB(T:mT G A n N names fn vs s J U env aC)(st:kA env (places l) J aC aA h'):AP (places l) J s.heap aA h':=by
 refine#[st.pre,λa c=>(st.fresh a c).imp id T.fresh,λa g e h b=>st.keep a g (T.keep _ _ e) h b (λq=>?_) λx _ q=>?_,λa o b e d=>st.slot a o b (T.keep _ _ e) d]
 ·(replace e:=(T.newL)▸(q▸e));exact bR e
 ·(replace e:=(T.jl x a q)▸e);exact bR e
def mT.fs(T:mT G A n N names fn vs s J U env aC)(Y:Lay G A l J s.heap):Fs (A.deeper env) env l env.locals env J aC/\Sep l env:=by
 refine aQ (T.X.ns) λm g _=>aQ (wJ g) λo e d=>#[#[Around.frames_deeper Y.fr,T.fr,T.fr,#[by(refine(T.Z.kind)▸?_);decide,#[env.locals,o,T.fr,rfl,e,d],(vi Y.alive λb _ o e h=>#[o,T.keep b o e,h])],λb hb=>?_],λb hb=>#[λq=>?_,λx _ q=>?_]]
 ·refine aQ (List.mem_filterMap.mp hb) λx c a=>?_;rcases List.mem_cons.mp c with rfl|c
  ·(replace a:=(T.fr)▸a);(apply fg a);exact T.X.kC
  ·exact Y.own b (List.mem_filterMap.mpr #[x,c,a])
 ·refine aQ (n7 Y.alive hb) λo e _=>?_;(replace e:=(T.newL)▸(q▸e));exact bR e
 ·refine aQ (n7 Y.alive hb) λo e _=>?_;(replace e:=(T.jl x b q)▸e);exact bR e
end
def zi(a:P.fns f=some fn)(U:H):av P sc (n+1) f vs U=if vs.length=fn.arity then cp (a8 #[sc,P.consts,av P sc n,P.fC,P.qg] fn.body (start vs fn) U) else .bad:=by
 simp only[av,a]
 split<;>rfl
section
variable{G:Gd}{n:Nat}(bc:cP G)(F:jb G)(hF:∀f fn,G.P.fns f=some fn->∃fd N body,sm G f fn fd N body)(bT:∀R,k8 (G.re R) n)
include bc F hF bT
omit bc F hF bT in
def FW{T:fV}{N:List Str}{K:Kn}(hk:k≠2)(h:uF T N K k b l=true):gK T N K b l=true/\(k=1->nI T b=true):=by
 unfold uF at h;replace h:=(decide_eq_false hk)▸h;refine aX (aV (show(gK T N K b l&&(!decide (k=1)||nI T b))=true from h)) λa c=>#[a,λq=>?_];rcases Bool.or_eq_true_iff.mp c with h|h
 ·(replace h:=(decide_eq_true q)▸h);exact ff h
 ·exact h
def Mz:k8 G (n+1):=by
 intro A Y f nt d i s J U Q E S t h;refine fD (PV.some h) λr z e=>bl (vm e) λfn m j B=>?_;rw[zi j] at h
 by_cases a:d.length=fn.arity
 ·replace h:=(if_pos a)▸h;refine ll (hF f fn j) λfd N body X=>call_in bc X a Y S t λg u v T=>n8 bc F T.Y bT T.Z fn.body (FW nt X.yc).1 G.res {s with heap:=u,toks:=v} J U _ _ _ T.X T.S ?_;have b:PV G (cp (a8 (G.ctx n) fn.body (start d fn) U)) J s Q:=h;show PS G N g (a8 (G.ctx n) fn.body (start d fn) U) J _ _;generalize a8 (G.ctx n) fn.body (start d fn) U=w at b ⊢;cases w with
  |ok fl L' x=>
   intro qK k l o p q C y;cases y with
   |next=>exact b .none k l o (T.back p) q .none
   |ret r=>exact b _ k l o (T.back p) q r
   |brk=>exact b.elim
   |cont=>exact b.elim
  |aF c L' x=>exact b.elim
  |bad=>exact b.elim
 ·(replace h:=(if_neg a)▸h);exact h.elim
variable(W:lO G)(CX:qi G n)
include W CX
def LN:qi G (n+1):=by
 intro A Y fe j Lf WD f xf p vals s J U k Q E S rl t h px;rcases xf with xf|xf
 ·refine cb (W.has f (.inl xf)) λfn i=>?_;rw[zi i] at h
  by_cases d:p.length=fn.arity
  ·replace h:=(if_pos d)▸h;refine ll (hF f fn i) λfd N body X=>call_in bc X d Y S rl λg aC fT T=>aX (T.fs #[t.fr,t.alive,t.own]) λfJ sep=>aX (FW (by(refine xf.symm▸?_);decide) X.yc) λv y=>?_;have a:cp (a8 (G.ctx n) fn.body (start p fn) U)=.aF G.tg k:=h;obtain⟨L',UC⟩:∃L',a8 (G.ctx n) fn.body (start p fn) U=.aF G.tg L' k:=by
    generalize a8 (G.ctx n) fn.body (start p fn) U=w at a;cases w with
    |ok fl L' k=>cases fl<;>(first|exact sv a|exact lM a|cases a)
    |aF c L' k=>(refine BE a λC cO=>?_;(clear a;subst C);(clear h px;subst cO));exact#[L',rfl]
    |bad=>exact lM a
   refine q8 bc F T.Y bT W CX T.Z fn.body v (y xf) {s with heap:=aC,toks:=fT} J U _ L' k (fe::j) _ _ T.X T.S fJ sep UC λe D h' tk aA st S' r BR=>Mi (fJ.jN sep st r) BR λdF base B l u=>aQ (r.ns) λm hm _=>?_;have I:∀b o,b≠g.locals->D.get? b=some o->(hid D [g.locals]).get? b=some o:=λb o hb e=>tM _ e (by simpa using hb);have VJ:base.get? g.locals=none:=(Heap.FunFrames.mem l.frames (List.mem_filterMap.mpr #[g,.head _,T.fr])).1;refine px e (hid D [g.locals]) dF tk aA ((T.back st).other T.newL I) (S'.iY r.kC r.newL (pF hm) I) (.on #[λb o q=>?_,λb o q K=>?_] #[l.stays,l.new,l.frames.2.2,l.Rr] λb o q K=>u b o (mx _ q) K)
   ·exact I b o (λz=>by(replace q:=VJ▸(z▸q));exact bR q) (B.sub b o q)
   ·refine B.sup b o (mx _ q) λz=>aQ (List.mem_filterMap.mp z) λx L i=>?_;rcases List.mem_cons.mp L with rfl|L
    ·(replace i:=(T.fr)▸i);(refine d7 i λC=>?_;(clear i z;subst C));(replace q:=(rn _ (.head _))▸q);exact bR q
    ·exact K (List.mem_filterMap.mpr #[x,L,i])
  ·(replace h:=(if_neg d)▸h);exact lM h
 ·exact absurd h (W.calm _ _ _ xf _ _)
variable(CY:uk G n)
include CY
def LO:uk G (n+1):=by
 intro A Y l f q e i s J U Q E S t u new h;have g:∃fn,G.P.fns f=some fn:=by
  cases d:G.P.fns f with
  |none=>simp only[av,d] at h;exact h.elim
  |some fn=>exact#[fn,rfl]
 refine cb (g) λfn d=>?_;rw[zi d] at h
 by_cases a:e.length=fn.arity
 ·replace h:=(if_pos a)▸h;refine ll (hF f fn d) λfd N body X=>call_in bc X a Y S t λv x y T=>aX (T.fs u) λz sep=>?_;have B:uE G.aE N fd.scope.names fn.body body=true:=by
   have:=X.yc;unfold uF at this;replace this:=(decide_eq_true q)▸this;exact this
  refine DW bc F T.Y bT W CX CY T.Z fn.body B {s with heap:=x,toks:=y} J U _ l _ _ #[T.X,T.S,z,sep,new] ?_;have b:BS G l (cp (a8 (G.ctx n) fn.body (start e fn) U)) J s Q:=h;generalize a8 (G.ctx n) fn.body (start e fn) U=w at b ⊢;cases w with
  |ok fl L' C=>
   intro qK j k m o p I D;cases D with
   |next=>exact b .none j k m (T.HB o) p .none
   |ret r=>exact b _ j k m (T.HB o) p r
   |brk=>exact b.elim
   |cont=>exact b.elim
  |aF c L' C=>exact b.elim
  |bad=>exact b.elim
 ·(replace h:=(if_neg a)▸h);exact h.elim
end
def EX(b:cP G)(F:jb G)(c:∀f fn,G.P.fns f=some fn->∃fd N body,sm G f fn fd N body)(W:lO G):∀n,(∀R,k8 (G.re R) n)/\qi G n/\uk G n
|0=>by
  refine#[?_,?_,?_]
  ·intro R A Y f nt e a s J U Q E S g h;exact h.elim
  ·intro A Y k d m i f xf e a s J U o Q E S g p j px;exact lM j
  ·intro A Y l f q e a s J U Q E S g r new h;exact h.elim
|n+1=>by
  exact g8 (EX b F c W n) λc1 c2 c3=>#[λR=>Mz (b.re R) F (λf fn h=>let #[fd,N,body,X]:=c f fn h;#[fd,N,body,#[X.obj,X.yb,X.glob,X.blt,X.bf,X.code,X.co,X.gen,X.kind,X.bind,X.nodup,X.len,X.arity,X.params,X.yc]]) c1,LN b F c c1 W c2,LO b F c c1 W c2 c3]
def Di(s:fd.params.posonlyargs=[])(t:fd.params.kwonlyargs=[])(u:fd.params.vararg=none)(w:fd.params.kwarg=none)(B:fd.params.args.map (·.arg)=ps)(y:fd.defaults=.none)(m:ps.Nodup)(a:List Value)(b:a.length=ps.length):bindArgs fd #[a,[]]=pure (ps.zip a):=by
 have d:∀(ps:List Str)(a:List Value),a.length=ps.length->∀x∈ps,((ps.zip a).lookup x).isSome=true:=by
  intro ps
  induction ps with
  |nil=>intro a _ x f;cases f
  |cons p ps i=>
   intro a b x f;cases a with
   |nil=>simp at b
   |cons v a=>
    rw[List.zip_cons_cons,List.lookup_cons];cases o:x==p with
    |true=>rfl
    |false=>
     refine i a (by simpa using b) x ?_;rcases List.mem_cons.mp f with q|q
     ·(clear b f;subst q);simp at o
     ·exact q
 have skip:∀(g:List Str)(p:Str)(v:Value)(l:List (Str×Value)),p∉g->(g.filterMap λn=>(((p,v)::l).lookup n).map (n,·))=g.filterMap λn=>(l.lookup n).map (n,·):=by
  intro g p v l
  induction g with
  |nil=>intro _;rfl
  |cons x g i=>
   intro z;have o:(x==p)=false:=by simpa using λ(q:x=p)=>z (q▸.head _)
   rw[List.filterMap_cons,List.filterMap_cons,List.lookup_cons,o,i λq=>z (.tail _ q)]
 have e:∀(ps:List Str)(a:List Value),ps.Nodup->a.length=ps.length->(ps.filterMap λn=>((ps.zip a).lookup n).map (n,·))=ps.zip a:=by
  intro ps
  induction ps with
  |nil=>intro a _ _;rfl
  |cons p ps i=>
   intro a m b;cases a with
   |nil=>simp at b
   |cons v a=>
    have j:=List.nodup_cons.mp m;refine(List.zip_cons_cons)▸(List.filterMap_cons)▸?_;have C:((p,v)::ps.zip a).lookup p=some v:=by rw[List.lookup_cons];simp
    refine C▸?_;simp only[Option.map_some];rw[skip ps p v _ j.1,i a j.2 (by simpa using b)]
 have A:∀k,((ps.take k).filter λn=>((ps.zip a).lookup n).isNone)=[]:=λk=>by
  rw[List.filter_eq_nil_iff];intro x f;have:=d ps a b x (List.mem_of_mem_take f);cases h:(ps.zip a).lookup x with
  |none=>(replace this:=h▸this);exact ff this
  |some v=>simp
 subst B;have e:=e _ a m b;obtain⟨nm,G,⟨I,r,J,K,L,P,df⟩,Q,sc,R,cl,T⟩:=fd;dsimp only at s t u w y b A e ⊢;subst s t u w y;refine Eq.trans (if_neg (c:=(decide (a.length>(r.map (·.arg)).length)&&true)=true) λq=>?_) ?_
 ·rw[b,Bool.and_true] at q;exact absurd (of_decide_eq_true q) (Nat.lt_irrefl _)
 have D:∀k,List.drop k ((none.getD (List.toArray [])).toList:List Value)=[]:=λk=>List.drop_nil;rw[D];refine Eq.trans (if_neg λq=>cU ((congrArg (λl:List Str=>!l.isEmpty) (A _)).symm.trans q)) ?_;have F:∀l:List Str,List.zip l ([]:List Value)=[]:=λl=>List.zip_nil_right;rw[F];exact Eq.trans (congrArg (λl:List Str=>(pure (l.filterMap λn=>(((r.map Arg.arg).zip a).lookup n).map (n,·)):Sem (List (Str×Value)))) (List.append_nil (r.map Arg.arg))) (congrArg (λl=>(pure l:Sem (List (Str×Value)))) e)
end Qh
namespace Qh
open PySem PyProof.Rows
abbrev Info.aE(I:Info)(a:List Nat):fV:=#[λf=>(((I.df f).map (·.name)).getD ""),λf=>!(I.meths.contains f),λg=>(((I.cn g).map (·.1)).getD ""),λk=>a.getD k 0]
abbrev Info.rZ(I:Info)(a:List Nat):Prog:=#[I.fns,λg=>(I.cn g).map (·.2),λk=>a.getD k 0,λ_ _=>false]
abbrev w8:List Str->Bool
|[]=>true
|x::r=>!(r.contains x)&&w8 r
abbrev oN(T:fV)(k:Nat)(d:Df)(name:Str)(params:Arguments)(body:List Stmt)(scope:Scope):Bool:=
 decide (name=d.name)&&params.posonlyargs.isEmpty&&params.kwonlyargs.isEmpty&&params.vararg.isNone&&params.kwarg.isNone&&decide (params.args.map (·.arg)=d.slots.take d.fn.arity)
  &&!scope.isCoroutine&&!scope.isGenerator&&decide (scope.kind=.function)&&w8 d.slots&&decide (d.slots.length=d.fn.slots)&&decide (d.fn.arity<=d.fn.slots)&&(d.slots.take d.fn.arity).all (fw scope.names)
  &&uF T d.slots scope.names k d.fn.body body
abbrev HC(self:Str)(st:Stmt):Bool:=(oU st).any λy=>(qj y.1).any (λz=>decide (z.2=("many":Str))&&(nameOf z.1).any λq=>decide (q=self))&&(iK y.2).any λc=>decide (c=.int 0)
abbrev Ag(m:MethRec):Bool:=decide (m.name=("__init__":Str))&&m.params.posonlyargs.isEmpty&&m.params.kwonlyargs.isEmpty&&m.params.vararg.isNone&&m.params.kwarg.isNone&&decide (m.params.args.map (·.arg)=[("self":Str)])
 &&!m.scope.isCoroutine&&!m.scope.isGenerator&&decide (m.scope.kind=.function)&&decide (m.scope.names.lookup ("self":Str)=some .local)&&(match m.body with|[st]=>HC "self" st|_=>false)
abbrev sZ:List Str:=["value","piece","new_name"]
abbrev HD(c:ClsRec):Bool:=decide (c.name=("Teller":Str))&&c.quiet.contains "many"&&c.meths.any Ag
abbrev HE(I:Info)(a:List Nat)(p:Program)(c:ClsRec)(f:Nat)(d:Df):Prop:=
 (f∈I.meths->∃m∈c.meths,m.name∈sZ/\oN (I.aE a) (a.getD (f+1) 0) d m.name m.params m.body m.scope=true)/\(f∉I.meths->∃r∈recsOf p,oN (I.aE a) (a.getD (f+1) 0) d r.name r.params r.body r.scope=true)
abbrev FX(I:Info)(a:List Nat)(p:Program)(c:ClsRec)(f:Nat):Bool:=match I.df f with
|none=>true
|some d=>if I.meths.contains f then c.meths.any λm=>sZ.contains m.name&&oN (I.aE a) (a.getD (f+1) 0) d m.name m.params m.body m.scope else(recsOf p).any λr=>oN (I.aE a) (a.getD (f+1) 0) d r.name r.params r.body r.scope
abbrev FY(I:Info)(b:List Nat)(p:Program)(a:List Str):Bool:=(plainsOf p a).any λc=>HD c&&(List.range I.defs.length).all (FX I b p c)
abbrev HF(I:Info)(a:List Nat)(f:Nat):Bool:=match I.df f with
|none=>!((I.aE a).x f)
|some d=>!((I.aE a).q f)||oy (I.aE a).q ((I.aE a).io 0) d.fn.body
abbrev ID(I:Info)(a:List Nat):Bool:=(List.range a.length).all (HF I a)
def FZ(h:ID I kd=true)(f:Nat)(b:(I.aE kd).x f=true):∃d,I.df f=some d/\((I.aE kd).q f=true->oy (I.aE kd).q ((I.aE kd).io 0) d.fn.body=true):=by
 have c:f∈List.range kd.length:=by
  rw[List.mem_range]
  by_cases q:f+1<kd.length
  ·exact aM 0x34184c04904920534184184c rfl q
  ·have e:(I.aE kd).io (f+1)=0:=by
    show kd.getD (f+1) 0=0;rw[List.getD_eq_getElem?_getD,List.getElem?_eq_none (~~~aM zo rfl (Nat.not_lt.mp q))];rfl
   unfold fV.x at b;(replace b:=e▸b);exact ff b
 have a:=List.all_eq_true.mp h f c;unfold HF at a;cases e:I.df f with
|none=>(replace a:=e▸a);simp only[b] at a;exact ff a
|some d=>
  replace a:=e▸a;refine#[d,rfl,λq=>?_];simp only[q] at a;exact a
def LP(h:FY I kd p loose=true):∃c∈plainsOf p loose,HD c=true/\∀f d,I.df f=some d->HE I kd p c f d:=by
 refine aQ (List.any_eq_true.mp h) λc j h=>?_;obtain⟨k,l⟩:=aV h;refine#[c,j,k,λf d g=>?_];have n:f∈List.range I.defs.length:=by
  rw[List.mem_range];unfold Info.df at g;cases e:I.defs[f]? with
  |none=>(replace g:=e▸g);exact bR g
  |some o=>exact(List.getElem?_eq_some_iff.mp e).1
 have a:=List.all_eq_true.mp l f n;unfold FX at a;replace a:=g▸a;simp only at a;refine#[λb=>?_,λb=>?_]
 ·replace a:=(if_pos (List.contains_iff_mem.mpr b))▸a;refine aQ (List.any_eq_true.mp a) λm b i=>?_;obtain⟨r,s⟩:=aV i;exact#[m,b,List.contains_iff_mem.mp r,s]
 ·(replace a:=(if_neg (λq=>b (List.contains_iff_mem.mp q)))▸a);exact aQ (List.any_eq_true.mp a) λm b i=>#[m,b,i]
def N2:typeLookup (.type "object") "value"=pure none:=by rw[typeLookup_type,builtinLookup_eq_fast];kernel_rfl
def N3:typeLookup (.type "object") "piece"=pure none:=by rw[typeLookup_type,builtinLookup_eq_fast];kernel_rfl
def RF:typeLookup (.type "object") "new_name"=pure none:=by rw[typeLookup_type,builtinLookup_eq_fast];kernel_rfl
def N4(h:x∈sZ):typeLookup (.type "object") x=pure none/\x≠"many":=by
 have:x="value"∨x="piece"∨x="new_name":=by simpa[sZ] using h
 rcases this with rfl|rfl|rfl
 ·exact#[N2,by decide+kernel]
 ·exact#[N3,by decide+kernel]
 ·exact#[RF,by decide+kernel]
def yX:∀{l:List Str},w8 l=true->l.Nodup
|[],_=>List.nodup_nil
|x::r,h=>by
  simp only[w8,Bool.and_eq_true,Bool.not_eq_true',List.contains_eq_mem,decide_eq_false_iff_not] at h;exact List.nodup_cons.mpr #[h.1,yX h.2]
abbrev xB:List PySem.W.WData->List V->Bool
|[],vs=>vs.isEmpty
|d::ds,vs=>match d with
  |.str a=>(match vs with|v::vs=>(match v with|.str b=>decide (a=b)&&xB ds vs|_=>false)|[]=>false)
  |_=>false
abbrev IE(d:PySem.W.WData)(vs:List V):Bool:=match d with
|.tuple ds=>xB ds vs
|_=>false
abbrev Ah(o:Option PyData)(j:Int):Bool:=match o with
|some d=>(match d with|.int i=>decide (i=j)|_=>false)
|none=>false
abbrev Ai(o:Option PyData)(j:Str):Bool:=match o with
|some d=>(match d with|.str i=>decide (i=j)|_=>false)
|none=>false
def MA(h:Ah o j=true):o=some (.int j):=by
 cases o with
|none=>exact absurd (show false=true from h) cU
|some d=>cases d with
  |int i=>(refine(of_decide_eq_true (show decide (i=j)=true from h))▸?_;with_reducible rfl)
  |_=>exact absurd (show false=true from h) cU
def MB(h:Ai o j=true):o=some (.str j):=by
 cases o with
|none=>exact absurd (show false=true from h) cU
|some d=>cases d with
  |str i=>(refine(of_decide_eq_true (show decide (i=j)=true from h))▸?_;with_reducible rfl)
  |_=>exact absurd (show false=true from h) cU
abbrev constOk(p:Program)(x:Str×V):Bool:=match x.2 with
|.int j=>Ah (valOf p x.1) j
|.str j=>Ai (valOf p x.1) j
|.ay vs=>(PySem.W.wlitsOf p).any λc=>decide (c.1=x.1)&&IE c.2 vs
|_=>false
def EY:∀{c:List PySem.W.WData}{vs:List V}{xs:List Value}{as:List Addr},xB c vs=true->PySem.W.ReadsAllW R cl h' xs c as->bL G J h xs vs
|[],vs,xs,as,h,r=>by
  cases r;have h:vs.isEmpty=true:=h
  (refine(List.isEmpty_iff.mp h)▸?_);exact .nil
|d::c,vs,xs,as,h,r=>by
  cases r with
  |cons e f=>
   cases d with
   |str a=>cases vs with
    |nil=>exact absurd (show false=true from h) cU
    |cons v vs=>cases v with
     |str b=>
      have h:(decide (a=b)&&xB c vs)=true:=h;rw[Bool.and_eq_true] at h;obtain rfl:=of_decide_eq_true h.1;cases e;exact .cons (.str _ _) (EY h.2 f)
     |_=>exact absurd (show false=true from h) cU
   |_=>exact absurd (show false=true from h) cU
abbrev N5(p:Program):Option (Str×V)->Bool
|none=>true
|some x=>constOk p x
def RG{I:Info}{f:Nat}(h:I.cn f=some d):some d∈I.consts:=by
 unfold Info.cn at h;cases e:I.consts[f]? with
|none=>(replace h:=e▸h);exact bR h
|some o=>(replace h:=e▸h);simp at h;subst h;exact List.mem_of_getElem? e
abbrev HH(p:Program)(a:List Str)(b:Str):Bool:=!startupNames.contains b&&!a.contains b&&!((recsOf p).map (·.name)).contains b&&!((litsOf p).map (·.1)).contains b&&!((clssOf p a).map (·.name)).contains b&&!(b=="__name__")
abbrev iO(prog:Program)(w:World)(h:Heap)(sA:Addr)(script:List Int)(I:Info)(b:List Nat)(c:Str->Option Value)(C CE:Addr)(mN:Str->Option Value):Gd:=
 {prog,w,hb:=h,sA,script,cA:=λk=>bif k==1 then CE else C,P:=I.rZ b,fN:=(I.aE b).fN,fA:=λf=>(match (bif I.meths.contains f then mN else c) ((I.aE b).fN f) with|some (.ref a)=>a|_=>0),fq:=(I.aE b).fq,gN:=(I.aE b).gN,res:=[]}
section
variable{prog view:Program}{loose:List Str}{mean:ExcName->Option Value}{mg mb:Str->Option Value}{w:World}{bE:Shared}{sA:Addr}{script:List Int}{I:Info}{kd:List Nat}
def HI(h:o.data=Data.func fd)(i:G.hb.get? (G.fA f)=some o)(c:oN G.aE (G.P.fC (f+1)) d name fd.params body fd.scope=true)(j:fd.body=.stmts body)(k:fd.globals=mainGlobals)(l:fd.builtins=builtinsNs)(m:fd.closure=[])(p:G.hb.CodeRec fd.code fd.qualname)(q:fd.defaults=.none):
  ∃fd body,sm G f d.fn fd d.slots body:=by refine bB λB r=>?_;unfold oN at c;simp only[Bool.and_eq_true,decide_eq_true_eq,List.isEmpty_iff,Option.isNone_iff_eq_none,Bool.not_eq_true'] at c;obtain⟨⟨⟨⟨⟨⟨⟨⟨⟨⟨⟨⟨⟨c1,c2⟩,c3⟩,c4⟩,s⟩,t⟩,u⟩,v⟩,x⟩,e⟩,g⟩,a⟩,y⟩,z⟩:=c;exact r #[fd,body,#[o,i,h],j,k,l,m,p,u,v,x,λb A=>Di c2 c3 c4 s t q ((List.take_sublist _ _).nodup (yX e)) b (by rw[List.length_take,g,Nat.min_eq_left a];exact A),yX e,g,a,y,z]
def F0(a:oN T k d name ps body sc=true):name=d.name:=by
 unfold oN at a
 repeat (replace a:=(Bool.and_eq_true_iff.mp a).1)
 exact of_decide_eq_true a
def TB{c:ClsRec}{C CE N:Addr}{mN:Str->Option Value}(T:Top view loose mean mg mb bE.heap)(PL:PlainAt bE.heap c C N mN)(y:∀f d,I.df f=some d->HE I kd view c f d)(u:I.df f=some d):
  ((I.aE kd).fq f=true->mg ((I.aE kd).fN f)=some (.ref ((iO prog w bE.heap sA script I kd mg C CE mN).fA f)))/\((I.aE kd).fq f=false->mN ((I.aE kd).fN f)=some (.ref ((iO prog w bE.heap sA script I kd mg C CE mN).fA f))/\(∃o,bE.heap.get? ((iO prog w bE.heap sA script I kd mg C CE mN).fA f)=some o/\o.cls=.type "function")/\(I.aE kd).fN f∈sZ)/\
   ∃fd body,sm (iO prog w bE.heap sA script I kd mg C CE mN) f d.fn fd d.slots body:=by
 refine aX (y f d u) λA B=>?_;have v:(I.aE kd).fN f=d.name:=by
  show((I.df f).map (·.name)).getD ("":Str)=_
  (refine u▸?_);rfl
 by_cases q:f∈I.meths
 ·refine bB λD k=>ct (A q) λr l F h=>Hc (PL.meths r l) λa o G code m i j p s J=>?_;have t:(I.aE kd).fq f=false:=by show(!(I.meths.contains f))=false;(refine(List.contains_iff_mem.mpr q)▸?_);rfl
  refine k ?_;have b:(I.aE kd).fN f=r.name:=by(refine v▸?_;exact(F0 h).symm)
  have g:(iO prog w bE.heap sA script I kd mg C CE mN).fA f=a:=by
   show(match (bif I.meths.contains f then mN else mg) ((I.aE kd).fN f) with|some (.ref a)=>a|_=>0)=a;refine(List.contains_iff_mem.mpr q)▸b▸?_;show(match mN r.name with|some (.ref a)=>a|_=>0)=a;refine i▸?_;with_reducible rfl
  refine#[λz=>(by(replace z:=t▸z);exact ff z),λ_=>#[by(refine g▸?_;refine b▸?_);exact i,#[o,by(refine g▸?_);exact j,p],by(refine b▸?_);exact F],HI s (by(refine g▸?_);exact j) h rfl rfl rfl rfl J rfl]
 ·refine bB λD k=>aQ (B q) λr l h=>Tc (T.fn r l) λa o G code m i j p s=>?_;have x:I.meths.contains f=false:=by
   cases e:I.meths.contains f with
   |false=>rfl
   |true=>exact absurd (List.contains_iff_mem.mp e) q
  have t:(I.aE kd).fq f=true:=by show(!(I.meths.contains f))=true;(refine x▸?_);rfl
  refine k ?_;have b:(I.aE kd).fN f=r.name:=by(refine v▸?_;exact(F0 h).symm)
  have g:(iO prog w bE.heap sA script I kd mg C CE mN).fA f=a:=by
   show(match (bif I.meths.contains f then mN else mg) ((I.aE kd).fN f) with|some (.ref a)=>a|_=>0)=a;refine x▸b▸?_;show(match mg r.name with|some (.ref a)=>a|_=>0)=a;refine i▸?_;with_reducible rfl
  refine#[λ_=>by(refine g▸?_;refine b▸?_);exact i,λz=>(by(replace z:=t▸z);exact tf z),HI p (by(refine g▸?_);exact j) h rfl rfl rfl rfl s rfl]
def PW{c:ClsRec}{C N:Addr}(PL:PlainAt bE.heap c C N mN)(h:c.meths.any Ag=true):
  ∃D g fd self i j p q k,mN "__init__"=some (.ref D)/\bE.heap.get? D=some g/\g.cls=.type "function"/\g.data=.func fd/\bE.heap.CodeRec fd.code fd.qualname/\
  fd.body=.stmts [.Assign [.Attribute (.Name self i) "many" j] (.Constant (.int 0) k p) q]/\(∀v,bindArgs fd #[[v],[]]=pure [(self,v)])/\fd.closure=[]/\fd.scope.names.lookup self=some .local/\
  fd.scope.isCoroutine=false/\fd.scope.isGenerator=false/\fd.scope.kind=.function/\(self==("__debug__":Str))=false:=by
 refine aQ (List.any_eq_true.mp h) λm K r=>Hc (PL.meths m K) λa o L code s Q R T U X=>?_;unfold Ag at r;simp only[Bool.and_eq_true,decide_eq_true_eq,List.isEmpty_iff,Option.isNone_iff_eq_none,Bool.not_eq_true'] at r;refine bB λXx Y=>?_;obtain⟨⟨⟨⟨⟨⟨⟨⟨⟨⟨c1,c2⟩,c3⟩,c4⟩,Z⟩,c6⟩,c7⟩,c8⟩,c9⟩,yd⟩,f⟩:=r;have hb:∃st,m.body=[st]/\HC "self" st=true:=by
  generalize m.body=l at f
  match l,f with
  |[st],f=>exact#[st,rfl,f]
 refine aQ (hb) λst hb F=>?_;obtain⟨⟨t,e⟩,u,G⟩:=cW F;replace u:=FU u;obtain⟨q,rfl⟩:=u;obtain⟨b,x⟩:=aV G;obtain⟨⟨o',x'⟩,d,J⟩:=cW b;obtain⟨j,e1⟩:=zh d;subst (e1);obtain⟨z,h8⟩:=aV J;have z:x'=_:=of_decide_eq_true z;clear d b F G J;subst z;refine aQ (cW h8) λy hy A=>?_;obtain⟨i,e2⟩:=nQ hy;subst (e2);have A:=of_decide_eq_true A;subst A;refine aQ (cW x) λk0 hk B=>fD (rq hk) λk p e3=>?_;clear hk;subst (e3);have B:=of_decide_eq_true B;subst B;refine Y ?_;refine#[a,o,_,"self",i,j,p,q,k,by(refine c1▸?_);exact Q,R,T,U,X,?_,λv=>?_,rfl,yd,c7,c8,c9,by decide+kernel]
 ·show FuncBody.stmts m.body=_;refine hb▸?_;with_reducible rfl
 ·exact Di (fd:=methDef m.name (c.name++"."++m.name) m.params m.body m.scope L code s) (ps:=["self"]) c2 c3 c4 Z c6 rfl (by decide+kernel) [v] rfl
def RH(T:Top view loose mean mg mb bE.heap)(TW:PySem.W.TopW view mg bE.heap)(TE:TopE view loose mg bE.heap)(hs:bE.heap.NoSeer)(Y:FY I kd view loose=true)(JB:ID I kd=true)(VN:specOf view "TooGreat"=some ("ValueError.__new__",EW))(Z:kd.getD (L+1) 0=2)(hc:I.consts.all (N5 view)=true)(hb:pK.all (HH view loose)=true){xs:List Value}(hl:bE.heap.IsList sA xs.toArray)(hi:IntsAre xs script)(RI:script.length<=63){fa:Addr}{dL:Df}(hL:I.df L=some dL)(VO:(I.aE kd).fq L=true)(BU:mg dL.name=some (.ref fa)){ah:H}(uG:av (I.rZ kd) script 690 L [.cF] []=.ok (.bool true) ah){Q:bN}{E:bN}(hQ:∀l tk,(∀b o,bE.heap.get? b=some o->l.get? b=some o)->Q (.bool true) {bE with heap:=l,toks:=tk}):
  wpAny (model prog w) callerA (call (.ref fa) [.ref sA]) Q E bE:=by
 refine aQ (T.ownAt VN) λCE OE _=>?_;have s:∀f fn,(I.rZ kd).fns f=some fn->∃d,I.df f=some d/\d.fn=fn:=λf fn h=>by
  have l:(I.df f).map (·.fn)=some fn:=h;cases e:I.df f with
  |none=>(replace l:=e▸l);exact bR l
  |some d=>(replace l:=e▸l);exact#[d,rfl,by simpa using l]
 refine ct (LP Y) λc VP iv D=>g9 (TE c VP) λC NA t hC VQ=>?_;have PL:=VQ.ofCmp;refine aX (aV iv) λUD VR=>aX (aV UD) λhcn VS=>?_;replace hC:=((of_decide_eq_true hcn))▸hC;have ok:∀{f:Nat}{d:Df},I.df f=some d->_:=λ{f d} h=>TB (CE:=CE) (prog:=prog) (w:=w) (sA:=sA) (script:=script) T PL D h;have bc:cP (iO prog w bE.heap sA script I kd mg C CE t):=by
  refine#[T.nolimit,#[mg,mb,T.g,T.b,λf fn h G=>?_,λg u h=>?_,λb hb'=>?_],?_,#[xs,hl,hi],bZ RI ∅,mg,NA,t,T.g,hC,#[PL.cls,PL.quiet _ (List.mem_append_left _ (.head _)),PL.quiet _ (List.mem_append_left _ (.tail _ (.head _))),PL.quiet _ (List.mem_append_left _ (.tail _ (.tail _ (.head _)))),PL.quiet _ (List.contains_iff_mem.mp VS),λf fn h G=>?_,PW PL VR]]
  ·obtain⟨d,p,_⟩:=s f fn h;exact(ok p).1 ()
  ·have l:(I.cn g).map (·.2)=some u:=h;cases e:I.cn g with
   |none=>(replace l:=e▸l);exact bR l
   |some x=>
    replace l:=e▸l;have hu:x.2=u:=by simpa using l
    (clear l;(clear h;subst hu));have G:(iO prog w bE.heap sA script I kd mg C CE t).gN g=x.1:=by
     show((I.cn g).map (·.1)).getD ("":Str)=_
     (refine e▸?_);rfl
    refine G▸?_;have k:constOk view x=true:=List.all_eq_true.mp hc (some x) (RG e);obtain⟨x1,x2⟩:=x;clear G e;cases x2 with
    |int j=>
     have k:Ah (valOf view x1) j=true:=k;obtain⟨v,B,K⟩:=T.const _ _ (MA k);refine#[v,B,λR J h _ _=>?_];have:=K h;cases this;exact .int _ _
    |str j=>
     have k:Ai (valOf view x1) j=true:=k;obtain⟨v,B,K⟩:=T.const _ _ (MB k);refine#[v,B,λR J h _ _=>?_];have:=K h;cases this;exact .str _ _
    |ay vs=>
     have k:((PySem.W.wlitsOf view).any λc=>decide (c.1=x1)&&IE c.2 vs)=true:=k;refine aQ (List.any_eq_true.mp k) λc U y=>?_;rw[Bool.and_eq_true] at y;refine aQ (TW.lits c U) λv B K=>#[v,by(refine(of_decide_eq_true y.1)▸?_);exact B,λR J h hk hR=>?_];obtain⟨c1,c2⟩:=c;clear B U;cases c2 with
     |tuple ds=>
      cases K with
      |@tuple a o us m _ as z e2 e3 e4=>
       refine .ay #[o,hk _ _ z,e2,m,?_] (EY (y.2) e4) λq=>?_
       ·refine e3▸?_;with_reducible rfl
       ·have BV:(iO prog w bE.heap sA script I kd mg C CE t).hb.get? a=some o:=z;(replace BV:=(hR a q)▸BV);exact bR BV
     |_=>exact absurd (show false=true from y.2) cU
    |_=>exact absurd (show false=true from k) cU
  ·have k:=List.all_eq_true.mp hb b hb';unfold HH at k;simp only[Bool.and_eq_true,Bool.not_eq_true',List.contains_eq_mem,decide_eq_false_iff_not,beq_eq_false_iff_ne,ne_eq] at k;exact#[T.free b k.1.1.1.1.1 k.1.1.1.1.2 k.1.1.1.2 k.1.1.2 k.1.2,T.builtins b k.2]
  ·obtain⟨mm,⟨o,_,_,ho,_⟩,_⟩:=hs.mods;exact#[o,ho]
  ·obtain⟨d,p,_⟩:=s f fn h;exact g8 ((ok p).2.1 G) λq1 q2 q3=>#[q1,q2,N4 q3]
 have hF:∀f fn,(iO prog w bE.heap sA script I kd mg C CE t).P.fns f=some fn->∃fd N body,sm (iO prog w bE.heap sA script I kd mg C CE t) f fn fd N body:=λf fn h=>by
  refine bB λXx aH=>aQ (s f fn h) λd p aW=>?_;clear h;subst aW;obtain⟨_,_,fd,body,q⟩:=ok p;exact aH (#[fd,_,body,q])
 have F:jb (iO prog w bE.heap sA script I kd mg C CE t):=λf fn h=>by
  exact ll (hF f fn h) λfd N body q=>aQ (q.obj) λo X h2=>#[o,fd,X,h2]
 have W:lO (iO prog w bE.heap sA script I kd mg C CE t):=by
  have q1:∀f fn,(I.rZ kd).fns f=some fn->(I.aE kd).q f=true->oy (I.aE kd).q ((I.aE kd).io 0) fn.body=true:=λf fn h y=>by
   refine aQ (FZ JB f (Bool.or_eq_true_iff.mpr (.inr y))) λd D p=>aQ (s f fn h) λd' z e2=>?_;(replace z:=D▸z);(refine d7 z λaO=>?_;(clear z;subst aO))
   (refine e2▸?_);exact p y
  refine#[#[mg,T.g,OE],λf k=>?_,λn f vs y=>DV q1 n f vs (decide_eq_true y)]
  obtain⟨d,D,_⟩:=FZ JB f (by
   rcases k with k|k
   ·exact Bool.or_eq_true_iff.mpr (.inl (decide_eq_true k))
   ·exact Bool.or_eq_true_iff.mpr (.inr (decide_eq_true k)))
  exact#[d.fn,by show(I.df f).map (·.fn)=_;(refine D▸?_);rfl]
 have A:=(EX bc F hF W 690).2.2;have VT:(iO prog w bE.heap sA script I kd mg C CE t).fA L=fa:=by
  have X:=(ok hL).1 VO;have hN:(I.aE kd).fN L=dL.name:=by
   show((I.df L).map (·.name)).getD ("":Str)=_
   (refine hL▸?_);rfl
  replace X:=BU▸(hN▸X);cases X;rfl
 have:=A callerA #[rfl,by decide+kernel,by decide+kernel] [] L Z [.cF] [.ref sA] bE [] [] Q E (#[λ_ _ e=>e,rfl,List.nodup_nil,λ_ h=>(nomatch h),λi a o h=>by simp at h,λ_ h=>(nomatch h),λ_ h=>(nomatch h)]) (.cons .cF .nil) #[rfl,trivial,λ_ h=>(nomatch h)] (λ_ h=>(nomatch h)) ?_
 ·(replace this:=VT▸this);exact this
 ·show BS _ _ (av (I.rZ kd) script 690 L [.cF] []) [] bE Q;refine uG▸?_;intro b l tk aA st S' r;(apply qv r);exact hQ l tk S'.base
end
end Qh
set_option backward.match.sparseCases false
set_option compiler.extract_closed false in
local macro_rules (kind:=«term{_}»)
|s=>λ_ t=>let d:=λn=>.node .none `Lean.Parser.Term.dotIdent (.mk [.atom .none ".",Lean.mkIdent n]);let a:=s.getArg 1;.ok (.node .none `Lean.Parser.Term.app (.mk [d `cons,.node .none `null (.mk [a.getArg 0,bif a.matchesNull 1 then d `nil else s.setArg 1 (.node .none `null (a.getArgs.extract 2))])])) t
namespace Qh
open PySem
abbrev sQ:Fn:=#[1,1,{.ite (.or {.cmp .Eq (.aq (.aa 0) (.int 0)) (.str "num"),.cmp .Eq (.aq (.aa 0) (.int 0)) (.str "name")}) {.ret (.af .nil)} .nil,.ite (.or {.cmp .Eq (.aq (.aa 0) (.int 0)) (.str "let"),.cmp .Eq (.aq (.aa 0) (.int 0)) (.str "use")}) {.ret (.list (.slc (.aa 0) (.int 2) .none))} .nil,.ite (.cmp .Eq (.aq (.aa 0) (.int 0)) (.str "turns")) {.ret (.af {.aq (.aa 0) (.int 3),.aq (.aa 0) (.int 4)})} .nil,.ite (.cmp .Eq (.aq (.aa 0) (.int 0)) (.str "def")) {.ret (.af {.aq (.aa 0) (.int 4),.aq (.aa 0) (.int 5)})} .nil,.ret (.list (.slc (.aa 0) (.int 1) .none))}]
abbrev KM:List Str:=["term"]
abbrev s8:Fn:=#[1,2,{.ret (.ak .Add (.int 1) (.sum (.comp (.call 1 {.aa 1}) 1 [] (.call 0 {.aa 0}))))}]
abbrev KX:List Str:=["term","part"]
abbrev sR:Fn:=#[1,2,{.ret (.ak .Add (.int 1) (.hY (.comp (.call 2 {.aa 1}) 1 [] (.call 0 {.aa 0}))))}]
abbrev KN:List Str:=["term","part"]
abbrev vd:Fn:=#[2,2,{.ite (.cmp .Lt (.aa 1) (.len (.aa 0))) {.ret (.aq (.aa 0) (.aa 1))} .nil,.ret (.int 0)}]
abbrev Ki:List Str:=["_law_script","_law_k"]
abbrev yz:Fn:=#[2,3,{.aK 2 (.ak .Mod (.ak .Mult (.ak .Add (.call 3 {.aa 0,.aa 1}) (.ak .Mult (.int 7919) (.aa 1))) (.int 48271)) (.int 2147483647)),.ret (.ak .Mod (.ak .Add (.ak .Add (.ak .Mult (.aa 2) (.aa 2)) (.ak .Mult (.int 7) (.aa 2))) (.aa 1)) (.int 2147483629))}]
abbrev Kz:List Str:=["_law_script","_law_k","_law_number_here"]
abbrev CT:Fn:=#[2,4,{.aK 2 (.af .nil),.iL 3 (.aa 1) {.append (.aa 2) (.ak .Mod (.aa 0) (.aa 3)),.aK 0 (.ak .FloorDiv (.aa 0) (.aa 3))},.ret (.aa 2)}]
abbrev KA:List Str:=["_law_number_here","_law_sizes","_law_some","_law_size"]
abbrev vj:Fn:=#[1,1,{.ret (.and {.d0 "int" (.aa 0),.not (.d0 "bool" (.aa 0))})}]
abbrev KB:List Str:=["_law_found"]
abbrev vr:Fn:=#[2,8,{.aK 2 (.str "abcdefghijklmnopqrstuvwxyz"),.aK 3 (.call 4 {.aa 0,.int 0}),.ite (.and {.cmp .Eq (.ak .Mod (.aa 3) (.int 8)) (.int 7),.cmp .Eq (.ak .Mod (.ak .FloorDiv (.aa 3) (.int 8)) (.int 2)) (.int 0)}) {.aK 5 (.af {.str "num",.str "name",.str "let",.str "quote",.str "hole",.str "run",.str "use",.str "lift"}),.ret (.aq (.aa 5) (.ak .Mod (.ak .Add (.ak .FloorDiv (.aa 3) (.int 16)) (.aa 1)) (.int 8)))} .nil,.aK 4 (.ak .Add (.int 1) (.ak .Mod (.aa 3) (.int 8))),.aK 5 (.fZ (.aq (.aa 2) (.ak .Mod (.ak .Add (.ak .FloorDiv (.aa 3) (.int 64)) (.ak .Mult (.int 5) (.aa 7))) (.int 26))) 7 [2,3] (.aa 4)),.aK 6 (.ak .Mod (.ak .FloorDiv (.aa 3) (.int 8)) (.aa 4)),.eX (.aa 5) (.aa 6) (.aq (.aa 2) (.ak .Mod (.ak .Add (.ak .Add (.ak .FloorDiv (.aa 3) (.int 64)) (.ak .Mult (.int 5) (.aa 6))) (.aa 1)) (.int 26))),.ret (.join (.str "") (.aa 5))}]
abbrev KO:List Str:=["_law_script","_law_which","_law_letters","_law_number_here","_law_size","_law_some","_law_at","_law_k"]
abbrev Dj:Fn:=#[2,2,{.eX (.aa 1) (.int 0) (.ak .Add (.aq (.aa 1) (.int 0)) (.int 1)),.ret (.call 4 {.aa 0,.aq (.aa 1) (.int 0)})}]
abbrev KP:List Str:=["_law_script","_law_state"]
abbrev vg:Fn:=#[1,2,{.aK 1 (.af {.ak .Mod (.aa 0) (.int 3),.ak .Mod (.aa 0) (.int 1000),.ak .Sub (.neg (.int 1)) (.ak .Mod (.aa 0) (.int 9)),.ak .Add (.ak .Mult (.int 1000003) (.ak .Mod (.aa 0) (.int 2))) (.ak .Mod (.aa 0) (.int 5)),.ak .Pow (.int 10) (.int 20)}),.ret (.aq (.ak .Add (.aa 1) (.af {.neg (.aa 0)})) (.ak .Mod (.ak .FloorDiv (.aa 0) (.int 1000)) (.int 6)))}]
abbrev Kq:List Str:=["_law_number_here","_law_some"]
abbrev yA:Fn:=#[1,2,{.ite (.cmp .In (.aq (.aa 0) (.int 0)) (.ay {.str "num",.str "name"})) {.ret (.af .nil)} .nil,.ite (.cmp .Eq (.aq (.aa 0) (.int 0)) (.str "let")) {.ret (.af {.aq (.aa 0) (.int 2),.aq (.aa 0) (.int 3)})} .nil,.ite (.cmp .Eq (.aq (.aa 0) (.int 0)) (.str "turns")) {.ret (.af {.aq (.aa 0) (.int 3),.aq (.aa 0) (.int 4)})} .nil,.ite (.cmp .Eq (.aq (.aa 0) (.int 0)) (.str "def")) {.ret (.af {.aq (.aa 0) (.int 4),.aq (.aa 0) (.int 5)})} .nil,.ite (.cmp .Eq (.aq (.aa 0) (.int 0)) (.str "use")) {.ret (.af {.aq (.aa 0) (.int 2)})} .nil,.ret (.comp (.aa 1) 1 [] (.slc (.aa 0) (.int 1) .none))}]
abbrev o9:Fn:=#[3,4,{.aK 3 (.dict (.aa 0)),.eX (.aa 3) (.aa 1) (.aa 2),.ret (.aa 3)}]
abbrev KC:List Str:=["names","name","meaning","found"]
abbrev CI:Fn:=#[3,3,{.ite (.cmp .NotIn (.aa 0) (.aa 2)) {.raise 1 "a name that means nothing"} .nil,.ite (.cmp .NotEq (.aq (.aq (.aa 2) (.aa 0)) (.int 0)) (.aa 1)) {.raise 2 "a name of another level"} .nil,.ret (.aq (.aa 2) (.aa 0))}]
abbrev Kr:List Str:=["name","level","names"]
abbrev yv:Fn:=#[3,3,{.ite (.or {.and {.cmp .Eq (.aa 0) (.str "hole"),.cmp .Eq (.aa 1) (.int 0)},.and {.cmp .In (.aa 0) (.ay {.str "quote",.str "lift",.str "run"}),.cmp .Eq (.aa 1) (.int 1)}}) {.raise 2 "what stands at a wrong level"} .nil,.ite (.and {.cmp .Eq (.aa 0) (.str "run"),.not (.aa 2)}) {.raise 2 "a run where it may not be"} .nil}]
abbrev Kt:List Str:=["word","level","is_free"]
abbrev CU:Fn:=#[5,5,{.ite (.cmp .NotEq (.call 46 {.aa 1,.aa 2,.aa 3,.aa 4}) (.aa 0)) {.raise 3 "a term of another kind"} .nil}]
abbrev KD:List Str:=["kind","term","level","names","is_free"]
abbrev yY:Fn:=#[4,7,{.aK 4 (.aq (.aa 0) (.int 0)),.expr (.call 44 {.aa 4,.aa 1,.aa 3}),.ite (.cmp .Eq (.aa 4) (.str "num")) {.ret (.glob 0)} .nil,.ite (.cmp .Eq (.aa 4) (.str "name")) {.aK 5 (.call 43 {.aq (.aa 0) (.int 1),.aa 1,.aa 2}),.ite (.cmp .NotEq (.len (.aa 5)) (.int 2)) {.raise 3 "a function that isn't used"} .nil,.ret (.aq (.aa 5) (.int 1))} .nil,.ite (.cmp .Eq (.aa 4) (.str "when")) {.expr (.call 45 {.glob 0,.aq (.aa 0) (.int 1),.aa 1,.aa 2,.aa 3}),.aK 6 (.call 46 {.aq (.aa 0) (.int 2),.aa 1,.aa 2,.aa 3}),.expr (.call 45 {.aa 6,.aq (.aa 0) (.int 3),.aa 1,.aa 2,.aa 3}),.ret (.aa 6)} .nil,.ite (.cmp .Eq (.aa 4) (.str "use")) {.aK 5 (.call 43 {.aq (.aa 0) (.int 1),.aa 1,.aa 2}),.ite (.cmp .NotEq (.len (.aa 5)) (.int 3)) {.raise 3 "no function"} .nil,.expr (.call 45 {.aq (.aa 5) (.int 1),.aq (.aa 0) (.int 2),.aa 1,.aa 2,.aa 3}),.ret (.aq (.aa 5) (.int 2))} .nil,.ite (.cmp .In (.aa 4) (.ay {.str "let",.str "turns",.str "def"})) {.ret (.call 47 {.aa 0,.aa 1,.aa 2,.aa 3})} .nil,.ret (.call 48 {.aa 0,.aa 1,.aa 2,.aa 3})}]
abbrev KY:List Str:=["term","level","names","is_free","word","meaning","kind"]
abbrev CC:Fn:=#[4,5,{.ite (.cmp .Eq (.aq (.aa 0) (.int 0)) (.str "let")) {.aK 4 (.call 46 {.aq (.aa 0) (.int 2),.aa 1,.aa 2,.aa 3}),.ret (.call 46 {.aq (.aa 0) (.int 3),.aa 1,.call 18 {.aa 2,.aq (.aa 0) (.int 1),.ay {.aa 1,.aa 4}},.aa 3})} .nil,.ite (.cmp .Eq (.aq (.aa 0) (.int 0)) (.str "turns")) {.aK 4 (.call 46 {.aq (.aa 0) (.int 3),.aa 1,.aa 2,.aa 3}),.expr (.call 45 {.aa 4,.aq (.aa 0) (.int 4),.aa 1,.call 18 {.aa 2,.aq (.aa 0) (.int 2),.ay {.aa 1,.aa 4}},.aa 3}),.ret (.aa 4)} .nil,.ite (.and {.cmp .Eq (.aa 1) (.int 1),.cmp .Eq (.aq (.aa 0) (.int 3)) (.glob 1)}) {.raise 3 "a function of pieces within a quote"} .nil,.aK 4 (.call 46 {.aq (.aa 0) (.int 4),.aa 1,.call 18 {.aa 2,.aq (.aa 0) (.int 2),.ay {.aa 1,.aq (.aa 0) (.int 3)}},.bool false}),.ret (.call 46 {.aq (.aa 0) (.int 5),.aa 1,.call 18 {.aa 2,.aq (.aa 0) (.int 1),.ay {.aa 1,.aq (.aa 0) (.int 3),.aa 4}},.aa 3})}]
abbrev Kj:List Str:=["term","level","names","is_free","kind"]
abbrev CJ:Fn:=#[4,5,{.aK 4 (.aq (.aa 0) (.int 0)),.ite (.cmp .Eq (.aa 4) (.str "quote")) {.expr (.call 45 {.glob 0,.aq (.aa 0) (.int 1),.int 1,.aa 2,.bool false}),.ret (.glob 1)} .nil,.ite (.cmp .Eq (.aa 4) (.str "hole")) {.expr (.call 45 {.glob 1,.aq (.aa 0) (.int 1),.int 0,.aa 2,.bool false}),.ret (.glob 0)} .nil,.ite (.cmp .Eq (.aa 4) (.str "lift")) {.expr (.call 45 {.glob 0,.aq (.aa 0) (.int 1),.aa 1,.aa 2,.aa 3}),.ret (.glob 1)} .nil,.ite (.cmp .Eq (.aa 4) (.str "run")) {.expr (.call 45 {.glob 1,.aq (.aa 0) (.int 1),.aa 1,.aa 2,.aa 3}),.ret (.glob 0)} .nil,.expr (.call 45 {.glob 0,.aq (.aa 0) (.int 1),.aa 1,.aa 2,.aa 3}),.expr (.call 45 {.glob 0,.aq (.aa 0) (.int 2),.aa 1,.aa 2,.aa 3}),.ret (.glob 0)}]
abbrev Ku:List Str:=["term","level","names","is_free","word"]
abbrev DX:Fn:=#[1,1,{.ret (.call 46 {.aa 0,.int 0,.az [] .nil,.bool true})}]
abbrev KZ:List Str:=["term"]
abbrev sS:Fn:=#[3,7,{.aK 3 (.af .nil),.eV 4 (.len (.aa 0)) {.aK 5 (.fX (.aa 6) 6 [0,4] (.slc (.aa 0) (.ak .Add (.aa 4) (.int 1)) .none) (.cmp .Eq (.aq (.aa 6) (.int 0)) (.aq (.aq (.aa 0) (.aa 4)) (.int 0)))),.ite (.and {.cmp .Eq (.aa 5) (.af .nil),.cmp .Eq (.aq (.aq (.aa 0) (.aa 4)) (.int 1)) (.aa 1),.cmp .In (.aq (.aq (.aa 0) (.aa 4)) (.int 2)) (.aa 2)}) {.append (.aa 3) (.aq (.aa 0) (.aa 4))} .nil},.ret (.aa 3)}]
abbrev KQ:List Str:=["_law_scope","_law_level","_law_kinds","_law_found","_law_k","_law_hidden","_law_one"]
abbrev vt:Fn:=#[6,9,{.aK 6 (.call 30 {.aa 4,.aa 2,.af {.ay {.aa 3}}}),.aK 7 (.call 30 {.aa 4,.ak .Sub (.int 1) (.aa 2),.aq (.af {.af {.ay {.str "number"}},.af {.ay {.str "piece"}}}) (.aa 2)}),.ite (.and {.cmp .Gt (.ak .Mod (.aa 5) (.int 4)) (.int 0),.cmp .NotEq (.aa 6) (.af .nil),.or {.cmp .Eq (.ak .Mod (.ak .FloorDiv (.aa 5) (.int 4)) (.int 3)) (.int 0),.cmp .Eq (.aa 7) (.af .nil)}}) {.ret (.ay {.str "name",.aq (.aq (.aa 6) (.ak .Mod (.ak .FloorDiv (.aa 5) (.int 12)) (.len (.aa 6)))) (.int 0)})} .nil,.aK 8 (.ay {.str "num",.call 9 {.ak .FloorDiv (.aa 5) (.int 16)}}),.ite (.and {.cmp .Eq (.aa 2) (.int 1),.cmp .NotEq (.aa 7) (.af .nil),.cmp .Gt (.ak .Mod (.aa 5) (.int 4)) (.int 0)}) {.ret (.ay {.str "hole",.ay {.str "name",.aq (.aq (.aa 7) (.ak .Mod (.ak .FloorDiv (.aa 5) (.int 12)) (.len (.aa 7)))) (.int 0)}})} .nil,.ite (.cmp .Eq (.aa 3) (.str "number")) {.ret (.aa 8)} .nil,.ite (.and {.cmp .NotEq (.aa 7) (.af .nil),.cmp .Gt (.ak .Mod (.aa 5) (.int 4)) (.int 0)}) {.ret (.ay {.str "quote",.ay {.str "name",.aq (.aq (.aa 7) (.ak .Mod (.ak .FloorDiv (.aa 5) (.int 12)) (.len (.aa 7)))) (.int 0)}})} .nil,.ret (.aq (.af {.ay {.str "lift",.aa 8},.ay {.str "quote",.aa 8}}) (.ak .Mod (.ak .FloorDiv (.aa 5) (.int 16)) (.int 2)))}]
abbrev KR:List Str:=["_law_script","_law_state","_law_level","_law_kind","_law_scope","_law_number_here","_law_found","_law_other","_law_leaf_here"]
abbrev yB:Fn:=#[3,4,{.aK 3 (.af {.str "let",.str "turns",.str "def",.str "when",.str "use",.str "use"}),.ite (.cmp .Eq (.aa 1) (.str "piece")) {.ret (.ak .Add (.aa 3) (.af {.str "quote",.str "quote",.str "quote",.str "quote",.str "quote",.str "quote",.str "lift"}))} .nil,.ite (.cmp .Eq (.aa 0) (.int 1)) {.ret (.ak .Add (.aa 3) (.af {.str "sum",.str "sum",.str "product",.str "less",.str "hole",.str "hole",.str "kept",.str "kept",.str "kept",.str "kept",.str "kept"}))} .nil,.ite (.aa 2) {.ret (.ak .Add (.aa 3) (.af {.str "sum",.str "product",.str "less",.str "run",.str "run",.str "run",.str "run",.str "run",.str "run"}))} .nil,.ret (.ak .Add (.aa 3) (.af {.str "sum",.str "product",.str "less"}))}]
abbrev KF:List Str:=["_law_level","_law_kind","_law_free","_law_some"]
abbrev vv:Fn:=#[7,12,{.aK 7 (.call 8 {.aa 0,.aa 1}),.eX (.aa 1) (.int 1) (.ak .Add (.aq (.aa 1) (.int 1)) (.int 1)),.ite (.or {.cmp .Eq (.aa 5) (.int 0),.cmp .Gt (.aq (.aa 1) (.int 1)) (.int 60)}) {.ret (.call 31 {.aa 0,.aa 1,.aa 2,.aa 3,.aa 4,.aa 7})} .nil,.aK 8 (.call 32 {.aa 2,.aa 3,.aa 6}),.aK 9 (.aq (.aa 8) (.ak .Mod (.aa 7) (.len (.aa 8)))),.aK 7 (.ak .FloorDiv (.aa 7) (.len (.aa 8))),.ite (.cmp .In (.aa 9) (.ay {.str "let",.str "turns",.str "def",.str "use",.str "kept"})) {.ret (.call 35 {.aa 0,.aa 1,.af {.aa 9,.aa 2,.aa 3,.aa 6},.aa 4,.ak .Sub (.aa 5) (.int 1),.aa 7})} .nil,.ite (.cmp .Eq (.aa 9) (.str "quote")) {.ret (.ay {.str "quote",.call 33 {.aa 0,.aa 1,.int 1,.str "number",.aa 4,.ak .Sub (.aa 5) (.int 1),.bool false}})} .nil,.ite (.cmp .Eq (.aa 9) (.str "hole")) {.ret (.ay {.str "hole",.call 33 {.aa 0,.aa 1,.int 0,.str "piece",.aa 4,.ak .Sub (.aa 5) (.int 1),.bool false}})} .nil,.ite (.cmp .Eq (.aa 9) (.str "lift")) {.ret (.ay {.str "lift",.call 33 {.aa 0,.aa 1,.int 0,.str "number",.aa 4,.ak .Sub (.aa 5) (.int 1),.aa 6}})} .nil,.ite (.cmp .Eq (.aa 9) (.str "run")) {.ret (.ay {.str "run",.call 33 {.aa 0,.aa 1,.int 0,.str "piece",.aa 4,.ak .Sub (.aa 5) (.int 1),.aa 6}})} .nil,.aK 10 (.call 33 {.aa 0,.aa 1,.aa 2,.str "number",.aa 4,.ak .Sub (.aa 5) (.int 1),.aa 6}),.ite (.cmp .NotEq (.aa 9) (.str "when")) {.ret (.ay {.aa 9,.aa 10,.call 33 {.aa 0,.aa 1,.aa 2,.str "number",.aa 4,.ak .Sub (.aa 5) (.int 1),.aa 6}})} .nil,.aK 11 (.call 33 {.aa 0,.aa 1,.aa 2,.aa 3,.aa 4,.ak .Sub (.aa 5) (.int 1),.aa 6}),.ret (.ay {.str "when",.aa 10,.aa 11,.call 33 {.aa 0,.aa 1,.aa 2,.aa 3,.aa 4,.ak .Sub (.aa 5) (.int 1),.aa 6}})}]
abbrev KS:List Str:=["_law_script","_law_state","_law_level","_law_kind","_law_scope","_law_depth","_law_free","_law_number_here","_law_words_here","_law_word","_law_one","_law_other"]
abbrev yC:Fn:=#[5,10,{.aK 5 (.call 7 {.aa 0,.aq (.af {.int 0,.int 0,.int 1,.int 2}) (.ak .Mod (.aa 4) (.int 4))}),.aK 6 (.ak .Add (.aa 2) (.af {.ay {.aa 5,.int 1,.ay {.str "number"}}})),.aK 7 (.call 30 {.aa 6,.int 0,.af {.ay {.str "piece"}}}),.aK 8 (.ay {.str "name",.aa 5}),.ite (.cmp .NotEq (.aa 7) (.af .nil)) {.aK 8 (.ay {.str "hole",.ay {.str "name",.aq (.aq (.aa 7) (.ak .Mod (.ak .FloorDiv (.aa 4) (.int 4)) (.len (.aa 7)))) (.int 0)}})} .nil,.aK 9 (.call 33 {.aa 0,.aa 1,.int 1,.str "number",.aa 6,.aa 3,.bool false}),.ret (.ay {.str "let",.aa 5,.ay {.str "num",.ak .Mod (.ak .FloorDiv (.aa 4) (.int 16)) (.int 50)},.ay {.str "sum",.aa 8,.aa 9}})}]
abbrev vf:Fn:=#[6,20,{.ik [13,14,15,16] (.aa 2),.aK 6 (.call 7 {.aa 0,.aq (.af {.int 0,.int 0,.int 1,.int 2}) (.ak .Mod (.aa 5) (.int 4))}),.aK 7 (.call 7 {.aa 0,.aq (.af {.int 1,.int 2,.int 1,.int 0}) (.ak .Mod (.ak .FloorDiv (.aa 5) (.int 4)) (.int 4))}),.aK 8 (.aq (.af {.str "number",.str "piece"}) (.ak .Mult (.ak .Mod (.ak .FloorDiv (.aa 5) (.int 16)) (.int 2)) (.ak .Sub (.int 1) (.aa 14)))),.aK 5 (.ak .FloorDiv (.aa 5) (.int 2)),.ite (.cmp .Eq (.aa 13) (.str "kept")) {.aK 17 (.ay {.str "num",.call 9 {.ak .FloorDiv (.aa 5) (.int 18)}}),.ite (.cmp .Eq (.ak .Mod (.ak .FloorDiv (.aa 5) (.int 16)) (.int 2)) (.int 0)) {.aK 17 (.call 33 {.aa 0,.aa 1,.int 1,.str "number",.aa 3,.max2 (.int 0) (.ak .Sub (.aa 4) (.int 1)),.bool false})} .nil,.aK 12 (.ak .Add (.aa 3) (.af {.ay {.aa 6,.int 1,.ay {.str "number"}},.ay {.aa 7,.int 0,.ay {.str "piece"}}})),.ite (.cmp .Eq (.ak .Mod (.ak .FloorDiv (.aa 5) (.int 5000)) (.int 2)) (.int 0)) {.aK 19 (.call 34 {.aa 0,.aa 1,.aa 12,.max2 (.int 0) (.ak .Sub (.aa 4) (.int 2)),.ak .FloorDiv (.aa 5) (.int 10000)})} {.aK 19 (.call 33 {.aa 0,.aa 1,.int 1,.str "number",.aa 12,.max2 (.int 0) (.ak .Sub (.aa 4) (.int 1)),.bool false})},.ret (.ay {.str "let",.aa 6,.aa 17,.ay {.str "hole",.ay {.str "let",.aa 7,.ay {.str "quote",.ay {.str "name",.aa 6}},.ay {.str "quote",.aa 19}}}})} .nil,.ite (.cmp .Eq (.aa 13) (.str "let")) {.aK 17 (.call 33 {.aa 0,.aa 1,.aa 14,.aa 8,.aa 3,.aa 4,.aa 16}),.ret (.ay {.str "let",.aa 6,.aa 17,.call 33 {.aa 0,.aa 1,.aa 14,.aa 15,.ak .Add (.aa 3) (.af {.ay {.aa 6,.aa 14,.ay {.aa 8}}}),.aa 4,.aa 16}})} .nil,.ite (.cmp .Eq (.aa 13) (.str "turns")) {.aK 18 (.aq (.af {.int 0,.int 1,.int 2,.int 3,.int 2,.int 3,.int 1,.int 9}) (.ak .Mod (.ak .FloorDiv (.aa 5) (.int 18)) (.int 8))),.ite (.cmp .Gt (.aa 4) (.int 1)) {.aK 18 (.ak .Mod (.aa 18) (.int 4))} .nil,.aK 17 (.call 33 {.aa 0,.aa 1,.aa 14,.aa 15,.aa 3,.aa 4,.aa 16}),.aK 12 (.ak .Add (.aa 3) (.af {.ay {.aa 6,.aa 14,.ay {.aa 15}}})),.ret (.ay {.str "turns",.aa 18,.aa 6,.aa 17,.call 33 {.aa 0,.aa 1,.aa 14,.aa 15,.aa 12,.aa 4,.aa 16}})} .nil,.aK 9 (.call 30 {.aa 3,.aa 14,.af {.ay {.str "number",.aa 15},.ay {.str "piece",.aa 15}}}),.ite (.and {.cmp .Eq (.aa 13) (.str "use"),.cmp .NotEq (.aa 9) (.af .nil)}) {.aK 17 (.aq (.aa 9) (.ak .Mod (.ak .FloorDiv (.aa 5) (.int 18)) (.len (.aa 9)))),.ret (.ay {.str "use",.aq (.aa 17) (.int 0),.call 33 {.aa 0,.aa 1,.aa 14,.aq (.aq (.aa 17) (.int 2)) (.int 0),.aa 3,.aa 4,.aa 16}})} .nil,.aK 10 (.aq (.af {.str "number",.str "piece"}) (.ak .Mult (.ak .Mod (.ak .FloorDiv (.aa 5) (.int 18)) (.int 2)) (.ak .Sub (.int 1) (.aa 14)))),.aK 11 (.call 33 {.aa 0,.aa 1,.aa 14,.aa 10,.ak .Add (.aa 3) (.af {.ay {.aa 6,.aa 14,.ay {.aa 8}}}),.aa 4,.bool false}),.aK 12 (.ak .Add (.aa 3) (.af {.ay {.aa 7,.aa 14,.ay {.aa 8,.aa 10}}})),.ret (.ay {.str "def",.aa 7,.aa 6,.aa 8,.aa 11,.call 33 {.aa 0,.aa 1,.aa 14,.aa 15,.aa 12,.aa 4,.aa 16}})}]
abbrev K5:Fn:=#[1,1,{.hZ {.ret (.call 49 {.aa 0})} 0 {.ret .none}}]
abbrev N6:Fn:=#[1,4,{.aK 1 (.aq (.af {.str "number",.str "piece"}) (.ak .Mod (.call 4 {.aa 0,.int 1}) (.int 2))),.aK 2 (.call 33 {.aa 0,.af {.int 1,.int 0},.int 0,.aa 1,.af .nil,.ak .Sub (.int 5) (.ak .FloorDiv (.ak .Mod (.ak .FloorDiv (.call 4 {.aa 0,.int 1}) (.int 2)) (.int 8)) (.int 3)),.bool true}),.ite (.cmp .NotEq (.call 51 {.aa 2}) (.aa 1)) {.ret (.bool false)} .nil,.ite (.cmp .Eq (.aa 1) (.str "piece")) {.ret (.and {.cmp .Eq (.call 51 {.ay {.str "run",.aa 2}}) (.str "number"),.cmp .Eq (.call 51 {.aa 2}) (.aa 1)})} .nil,.aK 3 (.ay {.str "quote",.ay {.str "hole",.ay {.str "lift",.ay {.str "num",.int 1}}}}),.ret (.and {.cmp .Eq (.call 51 {.ay {.str "lift",.aa 2}}) (.str "piece"),.cmp .Eq (.call 51 {.aa 3}) (.str "piece")})}]
abbrev Dk:Fn:=#[3,3,{.ite (.cmp .Eq (.aa 0) (.str "sum")) {.ret (.ak .Mod (.ak .Add (.aa 1) (.aa 2)) (.glob 2))} .nil,.ite (.cmp .Eq (.aa 0) (.str "product")) {.ret (.ak .Mod (.ak .Mult (.aa 1) (.aa 2)) (.glob 2))} .nil,.ret (.toInt (.cmp .Lt (.aa 1) (.aa 2)))}]
abbrev KT:List Str:=["word","one","other"]
abbrev CK:Fn:=#[1,1,{.ite (.or {.cmp .Gt (.call 1 {.aa 0}) (.glob 3),.cmp .Gt (.call 2 {.aa 0}) (.glob 4)}) {.raise 7 "a piece too great"} .nil}]
abbrev Kv:List Str:=["piece"]
abbrev Ct:Fn:=#[1,1,{.jQ (.aa 0) "many" (.ak .Add (.attr (.aa 0) "many") (.int 1)),.ret (.ak .Add (.str "v") (.toStr (.attr (.aa 0) "many")))}]
abbrev Kb:List Str:=["self"]
abbrev yt:Fn:=#[3,11,{.aK 3 (.aq (.aa 1) (.int 0)),.ite (.cmp .Eq (.aa 3) (.str "num")) {.ret (.ak .Mod (.aq (.aa 1) (.int 1)) (.glob 2))} .nil,.ite (.cmp .Eq (.aa 3) (.str "name")) {.ret (.aq (.aa 2) (.aq (.aa 1) (.int 1)))} .nil,.ite (.cmp .In (.aa 3) (.ay {.str "sum",.str "product",.str "less"})) {.aK 4 (.cQ 27 (.aa 0) {.aq (.aa 1) (.int 1),.aa 2}),.ret (.call 23 {.aa 3,.aa 4,.cQ 27 (.aa 0) {.aq (.aa 1) (.int 2),.aa 2}})} .nil,.ite (.cmp .Eq (.aa 3) (.str "when")) {.ite (.cmp .NotEq (.cQ 27 (.aa 0) {.aq (.aa 1) (.int 1),.aa 2}) (.int 0)) {.ret (.cQ 27 (.aa 0) {.aq (.aa 1) (.int 2),.aa 2})} .nil,.ret (.cQ 27 (.aa 0) {.aq (.aa 1) (.int 3),.aa 2})} .nil,.ite (.cmp .Eq (.aa 3) (.str "let")) {.aK 5 (.cQ 27 (.aa 0) {.aq (.aa 1) (.int 2),.aa 2}),.ret (.cQ 27 (.aa 0) {.aq (.aa 1) (.int 3),.call 18 {.aa 2,.aq (.aa 1) (.int 1),.aa 5}})} .nil,.ite (.cmp .Eq (.aa 3) (.str "turns")) {.aK 5 (.cQ 27 (.aa 0) {.aq (.aa 1) (.int 3),.aa 2}),.eV 6 (.aq (.aa 1) (.int 1)) {.aK 5 (.cQ 27 (.aa 0) {.aq (.aa 1) (.int 4),.call 18 {.aa 2,.aq (.aa 1) (.int 2),.aa 5}})},.ret (.aa 5)} .nil,.ite (.cmp .Eq (.aa 3) (.str "def")) {.ret (.cQ 27 (.aa 0) {.aq (.aa 1) (.int 5),.call 18 {.aa 2,.aq (.aa 1) (.int 1),.ay {.aq (.aa 1) (.int 2),.aq (.aa 1) (.int 4),.aa 2}}})} .nil,.ite (.cmp .Eq (.aa 3) (.str "use")) {.aK 5 (.cQ 27 (.aa 0) {.aq (.aa 1) (.int 2),.aa 2}),.ik [8,9,10] (.aq (.aa 2) (.aq (.aa 1) (.int 1))),.ret (.cQ 27 (.aa 0) {.aa 9,.call 18 {.aa 10,.aa 8,.aa 5}})} .nil,.ite (.cmp .Eq (.aa 3) (.str "quote")) {.aK 7 (.cQ 28 (.aa 0) {.aq (.aa 1) (.int 1),.aa 2}),.expr (.call 24 {.aa 7}),.ret (.aa 7)} .nil,.ite (.cmp .Eq (.aa 3) (.str "lift")) {.ret (.ay {.str "num",.cQ 27 (.aa 0) {.aq (.aa 1) (.int 1),.aa 2}})} .nil,.ret (.cQ 27 (.aa 0) {.cQ 27 (.aa 0) {.aq (.aa 1) (.int 1),.aa 2},.az [] .nil})}]
abbrev Ke:List Str:=["self","term","names","word","one","here","turn","piece","parameter","body","around"]
abbrev yu:Fn:=#[3,8,{.aK 3 (.aq (.aa 1) (.int 0)),.ite (.cmp .Eq (.aa 3) (.str "num")) {.ret (.aa 1)} .nil,.ite (.cmp .Eq (.aa 3) (.str "name")) {.ret (.ay {.str "name",.aq (.aa 2) (.aq (.aa 1) (.int 1))})} .nil,.ite (.cmp .Eq (.aa 3) (.str "hole")) {.ret (.cQ 27 (.aa 0) {.aq (.aa 1) (.int 1),.aa 2})} .nil,.ite (.cmp .Eq (.aa 3) (.str "use")) {.ret (.ay {.str "use",.aq (.aa 2) (.aq (.aa 1) (.int 1)),.cQ 28 (.aa 0) {.aq (.aa 1) (.int 2),.aa 2}})} .nil,.ite (.cmp .Eq (.aa 3) (.str "let")) {.aK 4 (.cQ 26 (.aa 0) .nil),.aK 5 (.cQ 28 (.aa 0) {.aq (.aa 1) (.int 2),.aa 2}),.ret (.ay {.aa 3,.aa 4,.aa 5,.cQ 28 (.aa 0) {.aq (.aa 1) (.int 3),.call 18 {.aa 2,.aq (.aa 1) (.int 1),.aa 4}}})} .nil,.ite (.cmp .Eq (.aa 3) (.str "turns")) {.aK 4 (.cQ 26 (.aa 0) .nil),.aK 5 (.cQ 28 (.aa 0) {.aq (.aa 1) (.int 3),.aa 2}),.ret (.ay {.aa 3,.aq (.aa 1) (.int 1),.aa 4,.aa 5,.cQ 28 (.aa 0) {.aq (.aa 1) (.int 4),.call 18 {.aa 2,.aq (.aa 1) (.int 2),.aa 4}}})} .nil,.ite (.cmp .Eq (.aa 3) (.str "def")) {.aK 4 (.cQ 26 (.aa 0) .nil),.aK 6 (.cQ 26 (.aa 0) .nil),.aK 5 (.cQ 28 (.aa 0) {.aq (.aa 1) (.int 4),.call 18 {.aa 2,.aq (.aa 1) (.int 2),.aa 6}}),.ret (.ay {.aa 3,.aa 4,.aa 6,.aq (.aa 1) (.int 3),.aa 5,.cQ 28 (.aa 0) {.aq (.aa 1) (.int 5),.call 18 {.aa 2,.aq (.aa 1) (.int 1),.aa 4}}})} .nil,.ret (.ak .Add (.ay {.aa 3}) (.tuple (.comp (.cQ 28 (.aa 0) {.aa 7,.aa 2}) 7 [2,0] (.slc (.aa 1) (.int 1) .none))))}]
abbrev Kf:List Str:=["self","term","names","word","new","one","parameter","part"]
abbrev GI:Fn:=#[1,1,{.ite (.cmp .NotEq (.call 49 {.aa 0}) (.glob 1)) {.raise 3 "a number"} .nil,.ret (.cQ 27 (.new 5) {.aa 0,.az [] .nil})}]
abbrev Le:List Str:=["term"]
abbrev K6:Fn:=#[2,5,{.aK 2 (.aq (.aa 0) (.int 0)),.ite (.cmp .Eq (.aa 2) (.str "num")) {.ret (.ak .Mod (.aq (.aa 0) (.int 1)) (.int 1000003))} .nil,.ite (.cmp .Eq (.aa 2) (.str "name")) {.ret (.aq (.aa 1) (.aq (.aa 0) (.int 1)))} .nil,.ite (.cmp .In (.aa 2) (.ay {.str "quote",.str "hole",.str "lift",.str "run"})) {.ret (.call 36 {.aq (.aa 0) (.int 1),.aa 1})} .nil,.ite (.cmp .Eq (.aa 2) (.str "when")) {.ret (.call 36 {.aq (.aa 0) (.ak .Add (.int 2) (.toInt (.cmp .Eq (.call 36 {.aq (.aa 0) (.int 1),.aa 1}) (.int 0)))),.aa 1})} .nil,.ite (.cmp .In (.aa 2) (.ay {.str "let",.str "turns",.str "def",.str "use"})) {.ret (.call 38 {.aa 0,.aa 1})} .nil,.aK 3 (.call 36 {.aq (.aa 0) (.int 1),.aa 1}),.aK 4 (.call 36 {.aq (.aa 0) (.int 2),.aa 1}),.ite (.cmp .Eq (.aa 2) (.str "less")) {.ret (.toInt (.cmp .Lt (.aa 3) (.aa 4)))} .nil,.ret (.ak .Mod (.aq (.af {.ak .Add (.aa 3) (.aa 4),.ak .Mult (.aa 3) (.aa 4)}) (.toInt (.cmp .Eq (.aa 2) (.str "product")))) (.int 1000003))}]
abbrev LQ:Fn:=#[3,4,{.aK 3 (.dict (.aa 0)),.eX (.aa 3) (.aa 1) (.aa 2),.ret (.aa 3)}]
abbrev Kk:Fn:=#[2,5,{.ite (.cmp .Eq (.aq (.aa 0) (.int 0)) (.str "let")) {.ret (.call 36 {.aq (.aa 0) (.int 3),.call 37 {.aa 1,.aq (.aa 0) (.int 1),.call 36 {.aq (.aa 0) (.int 2),.aa 1}}})} .nil,.ite (.cmp .Eq (.aq (.aa 0) (.int 0)) (.str "turns")) {.aK 3 (.call 36 {.aq (.aa 0) (.int 3),.aa 1}),.eV 4 (.aq (.aa 0) (.int 1)) {.aK 3 (.call 36 {.aq (.aa 0) (.int 4),.call 37 {.aa 1,.aq (.aa 0) (.int 2),.aa 3}})},.ret (.aa 3)} .nil,.ite (.cmp .Eq (.aq (.aa 0) (.int 0)) (.str "def")) {.ret (.call 36 {.aq (.aa 0) (.int 5),.call 37 {.aa 1,.aq (.aa 0) (.int 1),.af {.aq (.aa 0) (.int 2),.aq (.aa 0) (.int 4),.aa 1}}})} .nil,.aK 2 (.aq (.aa 1) (.aq (.aa 0) (.int 1))),.ret (.call 36 {.aq (.aa 2) (.int 1),.call 37 {.aq (.aa 2) (.int 2),.aq (.aa 2) (.int 0),.call 36 {.aq (.aa 0) (.int 2),.aa 1}}})}]
abbrev Kl:List Str:=["_law_term_here","_law_part"]
abbrev Km:List Str:=["_law_script","_law_state","_law_scope","_law_depth","_law_number_here","_law_x","_law_more_here","_law_found","_law_one","_law_other"]
abbrev Ko:List Str:=["_law_script","_law_state","_law_what","_law_scope","_law_depth","_law_number_here","_law_x","_law_f","_law_other","_law_found","_law_whole_here","_law_body","_law_more_here","_law_word","_law_level","_law_kind","_law_free","_law_one","_law_many","_law_inner"]
abbrev Cy:Fn:=#[1,3,{.aK 1 (.comp (.call 56 {.aa 2}) 2 [] (.call 10 {.aa 0})),.ret (.ay {.ak .Add (.int 1) (.sum (.comp (.aq (.aa 2) (.int 0)) 2 [] (.aa 1))),.ak .Add (.int 1) (.hY (.comp (.aq (.aa 2) (.int 1)) 2 [] (.aa 1)))})}]
abbrev Kg:List Str:=["_law_term_here","_law_parts_here","_law_part"]
abbrev DY:Fn:=#[1,1,{.eX (.aa 0) (.int 0) (.ak .Add (.aq (.aa 0) (.int 0)) (.int 1)),.ret (.ak .Add (.str "v") (.toStr (.aq (.aa 0) (.int 0))))}]
abbrev K1:List Str:=["_law_state"]
abbrev yD:Fn:=#[3,8,{.aK 3 (.aq (.aa 0) (.int 0)),.ite (.cmp .Eq (.aa 3) (.str "num")) {.ret (.ak .Mod (.aq (.aa 0) (.int 1)) (.int 1000003))} .nil,.ite (.cmp .Eq (.aa 3) (.str "name")) {.ret (.aq (.aa 1) (.aq (.aa 0) (.int 1)))} .nil,.ite (.cmp .Eq (.aa 3) (.str "quote")) {.ite (.cmp .Gt (.aq (.aa 2) (.int 2)) (.int 5000)) {.ret (.ay {.str "num",.int 0})} .nil,.aK 6 (.call 61 {.aq (.aa 0) (.int 1),.aa 1,.aa 2}),.aK 7 (.call 56 {.aa 6}),.eX (.aa 2) (.int 2) (.ak .Add (.aq (.aa 2) (.int 2)) (.aq (.aa 7) (.int 0))),.ite (.or {.cmp .Gt (.aq (.aa 7) (.int 0)) (.int 2000),.cmp .Gt (.aq (.aa 7) (.int 1)) (.int 30)}) {.eX (.aa 2) (.int 1) (.bool true),.ret (.ay {.str "num",.int 0})} .nil,.ret (.aa 6)} .nil,.ite (.cmp .Eq (.aa 3) (.str "lift")) {.ret (.ay {.str "num",.call 58 {.aq (.aa 0) (.int 1),.aa 1,.aa 2}})} .nil,.ite (.cmp .Eq (.aa 3) (.str "run")) {.aK 6 (.call 58 {.aq (.aa 0) (.int 1),.aa 1,.aa 2}),.eX (.aa 2) (.int 2) (.ak .Add (.aq (.aa 2) (.int 2)) (.call 40 {.aa 6,.az [] .nil})),.ite (.cmp .Gt (.aq (.aa 2) (.int 2)) (.int 5000)) {.ret (.int 0)} .nil,.ret (.call 58 {.aa 6,.az [] .nil,.aa 2})} .nil,.ite (.cmp .Eq (.aa 3) (.str "when")) {.ret (.call 58 {.aq (.aa 0) (.ak .Add (.int 2) (.toInt (.cmp .Eq (.call 58 {.aq (.aa 0) (.int 1),.aa 1,.aa 2}) (.int 0)))),.aa 1,.aa 2})} .nil,.ite (.cmp .In (.aa 3) (.ay {.str "let",.str "turns",.str "def",.str "use"})) {.ret (.call 60 {.aa 0,.aa 1,.aa 2})} .nil,.aK 4 (.call 58 {.aq (.aa 0) (.int 1),.aa 1,.aa 2}),.aK 5 (.call 58 {.aq (.aa 0) (.int 2),.aa 1,.aa 2}),.ite (.cmp .Eq (.aa 3) (.str "less")) {.ret (.toInt (.cmp .Lt (.aa 4) (.aa 5)))} .nil,.ret (.ak .Mod (.aq (.af {.ak .Add (.aa 4) (.aa 5),.ak .Mult (.aa 4) (.aa 5)}) (.toInt (.cmp .Eq (.aa 3) (.str "product")))) (.int 1000003))}]
abbrev KG:List Str:=["_law_term_here","_law_names","_law_state","_law_word","_law_one","_law_other","_law_piece_here","_law_found"]
abbrev KU:List Str:=["_law_names","_law_name_here","_law_value","_law_more_here"]
abbrev Cu:Fn:=#[3,7,{.ite (.cmp .Eq (.aq (.aa 0) (.int 0)) (.str "let")) {.aK 4 (.call 58 {.aq (.aa 0) (.int 2),.aa 1,.aa 2}),.ret (.call 58 {.aq (.aa 0) (.int 3),.call 59 {.aa 1,.aq (.aa 0) (.int 1),.aa 4},.aa 2})} .nil,.ite (.cmp .Eq (.aq (.aa 0) (.int 0)) (.str "turns")) {.aK 5 (.call 58 {.aq (.aa 0) (.int 3),.aa 1,.aa 2}),.eV 6 (.aq (.aa 0) (.int 1)) {.aK 5 (.call 58 {.aq (.aa 0) (.int 4),.call 59 {.aa 1,.aq (.aa 0) (.int 2),.aa 5},.aa 2})},.ret (.aa 5)} .nil,.ite (.cmp .Eq (.aq (.aa 0) (.int 0)) (.str "def")) {.aK 3 (.af {.aq (.aa 0) (.int 2),.aq (.aa 0) (.int 4),.aa 1}),.ret (.call 58 {.aq (.aa 0) (.int 5),.call 59 {.aa 1,.aq (.aa 0) (.int 1),.aa 3},.aa 2})} .nil,.aK 3 (.aq (.aa 1) (.aq (.aa 0) (.int 1))),.aK 4 (.call 58 {.aq (.aa 0) (.int 2),.aa 1,.aa 2}),.ret (.call 58 {.aq (.aa 3) (.int 1),.call 59 {.aq (.aa 3) (.int 2),.aq (.aa 3) (.int 0),.aa 4},.aa 2})}]
abbrev Kc:List Str:=["_law_term_here","_law_names","_law_state","_law_one","_law_given","_law_found","_law_turn"]
abbrev yE:Fn:=#[3,10,{.aK 3 (.aq (.aa 0) (.int 0)),.ite (.cmp .Eq (.aa 3) (.str "num")) {.ret (.aa 0)} .nil,.ite (.cmp .Eq (.aa 3) (.str "name")) {.ret (.ay {.str "name",.aq (.aa 1) (.aq (.aa 0) (.int 1))})} .nil,.ite (.cmp .Eq (.aa 3) (.str "hole")) {.ret (.call 58 {.aq (.aa 0) (.int 1),.aa 1,.aa 2})} .nil,.ite (.cmp .Eq (.aa 3) (.str "use")) {.ret (.ay {.str "use",.aq (.aa 1) (.aq (.aa 0) (.int 1)),.call 61 {.aq (.aa 0) (.int 2),.aa 1,.aa 2}})} .nil,.ite (.or {.cmp .Eq (.aa 3) (.str "let"),.cmp .Eq (.aa 3) (.str "turns")}) {.aK 4 (.call 57 {.aa 2}),.aK 5 (.ak .Sub (.len (.aa 0)) (.int 3)),.aK 6 (.call 61 {.aq (.aa 0) (.ak .Add (.aa 5) (.int 1)),.aa 1,.aa 2}),.aK 7 (.call 61 {.aq (.aa 0) (.ak .Add (.aa 5) (.int 2)),.call 59 {.aa 1,.aq (.aa 0) (.aa 5),.aa 4},.aa 2}),.ret (.ak .Add (.slc (.aa 0) .none (.aa 5)) (.ay {.aa 4,.aa 6,.aa 7}))} .nil,.ite (.cmp .Eq (.aa 3) (.str "def")) {.aK 8 (.call 57 {.aa 2}),.aK 4 (.call 57 {.aa 2}),.aK 6 (.call 61 {.aq (.aa 0) (.int 4),.call 59 {.aa 1,.aq (.aa 0) (.int 2),.aa 4},.aa 2}),.aK 7 (.call 61 {.aq (.aa 0) (.int 5),.call 59 {.aa 1,.aq (.aa 0) (.int 1),.aa 8},.aa 2}),.ret (.ay {.str "def",.aa 8,.aa 4,.str "number",.aa 6,.aa 7})} .nil,.ret (.ak .Add (.ay {.aa 3}) (.tuple (.comp (.call 61 {.aa 9,.aa 1,.aa 2}) 9 [1,2] (.slc (.aa 0) (.int 1) .none))))}]
abbrev KH:List Str:=["_law_term_here","_law_names","_law_state","_law_word","_law_x","_law_at","_law_one","_law_other","_law_f","_law_part"]
abbrev yw:Fn:=#[2,5,{.aK 2 (.aq (.aa 0) (.int 0)),.ite (.or {.cmp .Eq (.aa 2) (.str "num"),.cmp .Eq (.aa 2) (.str "name")}) {.ret (.int 1)} .nil,.ite (.cmp .Eq (.aa 2) (.str "turns")) {.ret (.ak .Add (.ak .Add (.int 1) (.call 40 {.aq (.aa 0) (.int 3),.aa 1})) (.ak .Mult (.aq (.aa 0) (.int 1)) (.call 40 {.aq (.aa 0) (.int 4),.aa 1})))} .nil,.ite (.cmp .Eq (.aa 2) (.str "def")) {.aK 3 (.call 59 {.aa 1,.aq (.aa 0) (.int 1),.call 40 {.aq (.aa 0) (.int 4),.aa 1}}),.ret (.ak .Add (.int 1) (.call 40 {.aq (.aa 0) (.int 5),.aa 3}))} .nil,.ite (.cmp .Eq (.aa 2) (.str "use")) {.ret (.ak .Add (.ak .Add (.int 1) (.aq (.aa 1) (.aq (.aa 0) (.int 1)))) (.call 40 {.aq (.aa 0) (.int 2),.aa 1}))} .nil,.ret (.ak .Add (.int 1) (.sum (.comp (.call 40 {.aa 4,.aa 1}) 4 [1] (.call 10 {.aa 0}))))}]
abbrev Kw:List Str:=["_law_term_here","_law_functions","_law_word","_law_more_here","_law_part"]
abbrev Dl:Fn:=#[1,3,{.aK 1 (.af {.int 0,.bool false,.ak .Mult (.ak .FloorDiv (.call 40 {.aa 0,.az [] .nil}) (.int 1000)) (.int 5001)}),.aK 2 .none,.ite (.cmp .Eq (.aq (.aa 1) (.int 2)) (.int 0)) {.aK 2 (.call 58 {.aa 0,.az [] .nil,.aa 1})} .nil,.ret (.af {.aa 2,.aq (.aa 1) (.int 1),.cmp .Gt (.aq (.aa 1) (.int 2)) (.int 5000)})}]
abbrev KV:List Str:=["_law_program","_law_state","_law_found"]
abbrev Cz:Fn:=#[1,2,{.ite (.or {.not (.d0 "str" (.aa 0)),.cmp .NotEq (.slc (.aa 0) .none (.int 1)) (.str "v"),.cmp .Lt (.len (.aa 0)) (.int 2),.cmp .Eq (.aq (.aa 0) (.int 1)) (.str "0")}) {.ret (.bool false)} .nil,.ret (.cmp .Eq (.fX (.aa 1) 1 [] (.slc (.aa 0) (.int 1) .none) (.cmp .NotIn (.aa 1) (.str "0123456789"))) (.af .nil))}]
abbrev Kh:List Str:=["_law_found","_law_sign"]
abbrev yJ:Fn:=#[1,2,{.aK 1 (.az ["num","name","sum","product","less","when","let"] {.int 2,.int 2,.int 3,.int 3,.int 3,.int 4,.int 4}),.update (.aa 1) (.az ["turns","def","use"] {.int 5,.int 6,.int 3}),.ite (.or {.not (.d0 "tuple" (.aa 0)),.cmp .Eq (.len (.aa 0)) (.int 0),.cmp .NotEq (.get (.aa 1) (.aq (.aa 0) (.int 0)) (.int 0)) (.len (.aa 0))}) {.ret (.bool false)} .nil,.ite (.cmp .Eq (.aq (.aa 0) (.int 0)) (.str "num")) {.ret (.call 6 {.aq (.aa 0) (.int 1)})} .nil,.ite (.cmp .Eq (.aq (.aa 0) (.int 0)) (.str "turns")) {.ret (.and {.call 6 {.aq (.aa 0) (.int 1)},.jh .LtE .LtE (.int 0) (.aq (.aa 0) (.int 1)) (.int 9)})} .nil,.ret (.or {.cmp .NotEq (.aq (.aa 0) (.int 0)) (.str "def"),.cmp .Eq (.aq (.aa 0) (.int 3)) (.str "number")})}]
abbrev KW:List Str:=["_law_term_here","_law_sizes"]
abbrev CL:Fn:=#[3,9,{.ite (.not (.call 65 {.aa 0})) {.ret (.bool false)} .nil,.aK 3 (.aq (.aa 0) (.int 0)),.ite (.cmp .Eq (.aa 3) (.str "name")) {.ret (.cmp .In (.aq (.aa 0) (.int 1)) (.aa 1))} .nil,.ite (.and {.cmp .Eq (.aa 3) (.str "use"),.cmp .NotIn (.aq (.aa 0) (.int 1)) (.aa 2)}) {.ret (.bool false)} .nil,.aK 4 (.af {.af .nil,.af .nil,.af .nil}),.ite (.or {.cmp .Eq (.aa 3) (.str "let"),.cmp .Eq (.aa 3) (.str "turns")}) {.eX (.aa 4) (.int 1) (.af {.aq (.aa 0) (.ak .Sub (.len (.aa 0)) (.int 3))})} .nil,.ite (.cmp .Eq (.aa 3) (.str "def")) {.aK 4 (.af {.af {.aq (.aa 0) (.int 2)},.af {.aq (.aa 0) (.int 1)}})} .nil,.aK 5 (.call 10 {.aa 0}),.eV 6 (.len (.aa 5)) {.iL 7 (.aq (.aa 4) (.aa 6)) {.ite (.or {.not (.call 64 {.aa 7}),.cmp .In (.aa 7) (.aa 1),.cmp .In (.aa 7) (.aa 2)}) {.ret (.bool false)} .nil},.aK 8 (.af {.ak .Add (.aa 1) (.aq (.aa 4) (.aa 6)),.aa 2}),.ite (.and {.cmp .Eq (.aa 3) (.str "def"),.cmp .Eq (.aa 6) (.int 1)}) {.aK 8 (.af {.aa 1,.ak .Add (.aa 2) (.aq (.aa 4) (.aa 6))})} .nil,.ite (.not (.call 66 {.aq (.aa 5) (.aa 6),.aq (.aa 8) (.int 0),.aq (.aa 8) (.int 1)})) {.ret (.bool false)} .nil},.ret (.bool true)}]
abbrev Kx:List Str:=["_law_term_here","_law_values","_law_functions","_law_word","_law_names","_law_parts_here","_law_k","_law_name_here","_law_more_here"]
abbrev tn:Fn:=#[1,5,{.aK 1 (.ak .Sub (.int 5) (.ak .FloorDiv (.ak .Mod (.call 4 {.aa 0,.int 1}) (.int 8)) (.int 3))),.aK 2 (.call 33 {.aa 0,.af {.int 1,.int 0},.int 0,.str "piece",.af .nil,.aa 1,.bool true}),.aK 3 (.call 63 {.aa 2}),.ite (.aq (.aa 3) (.int 2)) {.ret (.bool true)} .nil,.hZ {.aK 4 (.call 53 {.aa 2})} 7 {.ret (.aq (.aa 3) (.int 1))},.ret (.and {.not (.aq (.aa 3) (.int 1)),.call 66 {.aa 4,.af .nil,.af .nil},.cmp .Eq (.call 53 {.aa 2}) (.aa 4)})}]
abbrev CA:List Str:=["_law_script","_law_depth","_law_term_here","_law_gone_here","_law_found"]
abbrev GJ:Info:=#[[some #["parts_of",sQ,KM],some #["size_of",s8,KX],some #["depth_of",sR,KN],some #["_law_cell_at",vd,Ki],some #["_law_mixed",yz,Kz],some #["_law_drawn",CT,KA],some #["_law_whole",vj,KB],some #["_law_name",vr,KO],some #["_law_next",Dj,KP],some #["_law_number",vg,Kq],some #["_law_parts",yA,Kl],none,none,none,none,none,none,none,some #["with_name",o9,KC],none,none,none,none,some #["reckoned",Dk,KT],some #["need_small",CK,Kv],none,some #["new_name",Ct,Kb],some #["value",yt,Ke],some #["piece",yu,Kf],none,some #["_law_seen",sS,KQ],some #["_law_leaf",vt,KR],some #["_law_words",yB,KF],some #["_law_term",vv,KS],some #["_law_twice",yC,Km],some #["_law_bound",vf,Ko],none,none,none,none,some #["_law_cost",yw,Kw],none,none,some #["meaning_of",CI,Kr],some #["need_level",yv,Kt],some #["need_kind",CU,KD],some #["kind_at",yY,KY],some #["binder_kind",CC,Kj],some #["plain_kind",CJ,Ku],some #["kind_of",DX,KZ],none,none,none,some #["made",GI,Le],none,none,some #["_law_measured",Cy,Kg],some #["_law_new",DY,K1],some #["_law_stage",yD,KG],some #["_law_more",o9,KU],some #["_law_stage_bound",Cu,Kc],some #["_law_piece",yE,KH],none,some #["_law_gone",Dl,KV],some #["_law_new_name",Cz,Kh],some #["_law_form",yJ,KW],some #["_law_closed",CL,Kx],some #["law",tn,CA]],[some ("NUMBER",.str "number"),some ("PIECE",.str "piece"),some ("REST",.int 1000003),some ("MOST_TERMS",.int 2000),some ("MOST_DEEP",.int 30),none],[26,27,28]]
abbrev IF:List Nat:=[7,4,4,4,0,0,0,0,0,0,0,0,0,0,0,0,0,0,0,4,0,0,0,0,4,1,0,4,1,1,0,0,0,0,0,0,0,0,0,0,0,0,0,0,4,4,4,4,4,4,4,0,0,0,1,0,0,0,0,0,0,0,0,0,0,0,0,0,2]
@[reducible]def cx(P:Prog)(sc:List Int)(n:Nat):Ctx:=#[sc,P.consts,av P sc n,P.fC,P.qg]
def cI{P:Prog}{sc:List Int}{n f:Nat}{fn:Fn}{vs:List V}(a:P.fns f=some fn)(b:vs.length=fn.arity)(U:H):
  av P sc (n+1) f vs U=cp (a8 (cx P sc n) fn.body (vs.map some++List.replicate (fn.slots-fn.arity) none) U):=by
 simp only[av,a];rw[if_pos b]
 rfl
def q9{a:Nat->M (Option (List (Nat×V)))}{b:Qh.N Fl}{n k:Nat}{L L1 L2:aP}{U ae ao:H}{ps:List (Nat×V)}(c:a k U=.ok (some ps) ae)(d:Qh.N.gm (ps.map (·.1)) (ps.map (·.2)) L ae=.ok Unit.unit L1 ae)(e:b L1 ae=.ok .next L2 ao):
  eK a b (n+1) k L U=eK a b n (k+1) L2 ao:=by simp only[eK,Qh.N.bind,Qh.N.lift,c,d,e]
def tq{a:Nat->M (Option (List (Nat×V)))}{b:Qh.N Fl}{n k:Nat}{L:aP}{U ae:H}(c:a k U=.ok none ae):eK a b (n+1) k L U=.ok .next L ae:=by simp only[eK,Qh.N.bind,Qh.N.lift,c,Qh.N.pure]
def gF{s:Src}{f:V->M (Option V)}{n k:Nat}{U ae ao b9:H}{v:V}{y:Option V}{r:List V}(a:ea s k U=.ok (some v) ae)(b:f v ae=.ok y ao)(c:dG s f n (k+1) ao=.ok r b9):dG s f (n+1) k U=.ok (y.toList++r) b9:=by simp only[dG,M.bind,a,b,c,M.pure]
def kM{s:Src}{f:V->M (Option V)}{n k:Nat}{U ae:H}(a:ea s k U=.ok none ae):dG s f (n+1) k U=.ok [] ae:=by simp only[dG,M.bind,a,M.pure]
def dt{C:Ctx}{s:S}{r:SL}{L L1:aP}{U ae:H}(h:cT C s L U=.ok .next L1 ae):a8 C (.cons s r) L U=a8 C r L1 ae:=by simp only[rg,rh,Qh.N.bind,h]
def vS{C:Ctx}{s:S}{r:SL}{L L1:aP}{U ae:H}{v:V}(h:cT C s L U=.ok (.ret v) L1 ae):a8 C (.cons s r) L U=.ok (.ret v) L1 ae:=by simp only[rg,rh,Qh.N.bind,h,Qh.N.pure]
def zO{C:Ctx}{i:Nat}{e:E}{L:aP}{U ae:H}{v:V}(h:aj C e L U=.ok v ae):cT C (.aK i e) L U=.ok .next (cq L i v) ae:=by simp only[ot,kT,ml,ou,ox,me,kS,n6,Qh.N.bind,Qh.N.lift,h,Qh.N.put,Qh.N.pure]
def N7{C:Ctx}{e:E}{L:aP}{U ae:H}{v:V}(h:aj C e L U=.ok v ae):cT C (.ret e) L U=.ok (.ret v) L ae:=by simp only[ot,kT,ml,ou,ox,me,kS,n6,Qh.N.bind,Qh.N.lift,h,Qh.N.pure]
def bj{C:Ctx}{i:Nat}{e:E}{r:SL}{L:aP}{U ae:H}{v:V}(h:aj C e L U=.ok v ae):a8 C (.cons (.aK i e) r) L U=a8 C r (cq L i v) ae:=dt (zO h)
def bq{C:Ctx}{e:E}{r:SL}{L:aP}{U ae:H}{v:V}(h:aj C e L U=.ok v ae):a8 C (.cons (.ret e) r) L U=.ok (.ret v) L ae:=vS (N7 h)
def jD{C:Ctx}{c:E}{t e:SL}{L:aP}{U ae:H}(h:bQ C c L U=.ok true ae):cT C (.ite c t e) L U=a8 C t L ae:=by simp only[ot,kT,ml,ou,ox,me,kS,n6,Qh.N.bind,Qh.N.lift,h,if_true]
def pO{C:Ctx}{c:E}{t e:SL}{L:aP}{U ae:H}(h:bQ C c L U=.ok false ae):cT C (.ite c t e) L U=a8 C e L ae:=by simp only[ot,kT,ml,ou,ox,me,kS,n6,Qh.N.bind,Qh.N.lift,h,Bool.false_eq_true,if_false]
def eU{C:Ctx}{L:aP}{U:H}:a8 C .nil L U=.ok .next L U:=rfl
def aN{α b:Type}{m:M α}{f:α->M b}{a:α}{U ae:H}(h:m U=.ok a ae):M.bind m f U=f a ae:=by simp only[M.bind,h]
def MC{C:Ctx}{elt a:E}{v:Nat}{br:List Nat}{L:aP}{U ae ao:H}{n:Int}{us:List V}(b:aj C a L U=.ok (.int n) ae)(c:0<=n/\n<=1000000)(d:dG (.fix (d9 n)) (λe=>M.bind (aj C elt (cq (dj L br) v e)) λy=>M.pure (some y)) (n.toNat+1) 0 ae=.ok us ao):aj C (.fZ elt v br a) L U=.ok (.ref ao.length) (ao++[.af us]):=by
 rw[n5,aN b];show M.bind (M.pure n) _ ae=_;rw[aN (show M.pure n ae=.ok n ae from rfl),if_pos c,aN d]
 rfl
def mf{C:Ctx}{elt a:E}{v k:Nat}{br:List Nat}{L:aP}{U ae ao:H}{x:V}{sr:Src}{us:List V}(c:aj C a L U=.ok x ae)(d:srcOf x ae=.ok sr ae)(hk:fh sr ae=.ok k ae)(b:k<=aJ)(e:dG sr (λf=>M.bind (aj C elt (cq (dj L br) v f)) λy=>M.pure (some y)) (k+1) 0 ae=.ok us ao):aj C (.comp elt v br a) L U=.ok (.ref ao.length) (ao++[.af us]):=by
 rw[md,aN c,aN d,aN hk,if_pos b,aN e]
 rfl
def Dn{C:Ctx}{elt a t:E}{v k:Nat}{br:List Nat}{L:aP}{U ae ao:H}{x:V}{sr:Src}{us:List V}(e:aj C a L U=.ok x ae)(f:srcOf x ae=.ok sr ae)(hk:fh sr ae=.ok k ae)(c:k<=aJ)(g:dG sr (λd=>M.bind (bQ C t (cq (dj L br) v d)) λb=>if b then M.bind (aj C elt (cq (dj L br) v d)) λy=>M.pure (some y) else M.pure none) (k+1) 0 ae=.ok us ao):aj C (.fX elt v br a t) L U=.ok (.ref ao.length) (ao++[.af us]):=by
 rw[Nd,aN e,aN f,aN hk,if_pos c,aN g]
 rfl
section
variable{C:Ctx}{L:aP}{U ae ao b9:H}{a b c:E}{x y z r:V}
def aB{i:Nat}(h:cy L i=some x):aj C (.aa i) L U=.ok x U:=by simp only[pR,pT,om,pU,pV,oo,oq,nT,pG,nU,nV,l9,ma,nW,mc,kR,jA,nX,nY,nZ,pH,pJ,n0,md,n5,h];rfl
def bX{d:Operator}(e:aj C a L U=.ok x ae)(f:aj C b L ae=.ok y ao)(g:binop d x y ao=.ok r b9):aj C (.ak d a b) L U=.ok r b9:=by rw[nT,aN e,aN f,g]
def cC(d:aj C a L U=.ok x ae)(e:aj C b L ae=.ok y ao)(f:index C x y ao=.ok r b9):aj C (.aq a b) L U=.ok r b9:=by rw[nW,aN d,aN e,f]
def TC(e:aj C a L U=.ok x ae)(f:aj C b L ae=.ok y ao)(g:aj C c L ao=.ok z b9){d:H}(h:slice x y z b9=.ok r d):aj C (.slc a b c) L U=.ok r d:=by rw[mc,aN e,aN f,aN g,h]
def a6:dC C .nil L U=.ok [] U:=rfl
def ax{es:EL}{vs:List V}(d:aj C a L U=.ok x ae)(e:dC C es L ae=.ok vs ao):dC C (.cons a es) L U=.ok (x::vs) ao:=by rw[y4,aN d,aN e];rfl
def aS{i:Nat}{es:EL}{vs:List V}(h:cy L i=some x)(k:dC C es L U=.ok vs ao):dC C (.cons (.aa i) es) L U=.ok (x::vs) ao:=ax (aB h) k
def dE{es:EL}{vs:List V}(d:dC C es L U=.ok vs ae)(e:vs.length<=aJ):aj C (.af es) L U=.ok (.ref ae.length) (ae++[.af vs]):=by rw[oq,aN d,if_pos e];rfl
def cf{es:EL}{vs:List V}(d:dC C es L U=.ok vs ae)(e:vs.length<=aJ):aj C (.ay es) L U=.ok (.ay vs) ae:=by rw[oo,aN d,if_pos e];rfl
def aT{f:Nat}{es:EL}{vs:List V}(d:dC C es L U=.ok vs ae)(e:C.call f vs ae=.ok r ao):aj C (.call f es) L U=.ok r ao:=by rw[kR,aN d,e]
def AR(d:aj C a L U=.ok x ae)(e:oR x ae=.ok r ao):aj C (.sum a) L U=.ok r ao:=by rw[nY,aN d,e]
def GK(d:aj C a L U=.ok x ae)(e:qh x ae=.ok r ao):aj C (.hY a) L U=.ok r ao:=by rw[nZ,aN d,e]
def e_len(d:aj C a L U=.ok x ae)(e:lenOf C x ae=.ok r ao):aj C (.len a) L U=.ok r ao:=by rw[jA,aN d,e]
def wL(d:aj C a L U=.ok x ae)(e:wR x ae=.ok r ao):aj C (.toInt a) L U=.ok r ao:=by rw[nX,aN d,e]
def oO{d:CmpOp}{t:Bool}(e:aj C a L U=.ok x ae)(f:aj C b L ae=.ok y ao)(g:dh d x y ao=.ok t b9):aj C (.cmp d a b) L U=.ok (.bool t) b9:=by rw[nU,aN e,aN f,aN g];rfl
def cZ{d:CmpOp}{t:Bool}(e:aj C a L U=.ok x ae)(f:aj C b L ae=.ok y ao)(g:dh d x y ao=.ok t b9):bQ C (.cmp d a b) L U=.ok t b9:=by rw[wG,aN e,aN f,g]
def r7{t:Bool}(d:bQ C a L U=.ok t ae):bQ C (.not a) L U=.ok (!t) ae:=by rw[wD,aN d];rfl
def w9{f:Nat}{es:EL}{vs:List V}{t:Bool}(d:dC C es L U=.ok vs ae)(e:C.call f vs ae=.ok (.bool t) ao):bQ C (.call f es) L U=.ok t ao:=by rw[wH,aN (by rw[aN d,e])];rfl
def ic{es:EL}{t:Bool}(h:ky C es L U=.ok t ae):bQ C (.or es) L U=.ok t ae:=by rw[wF,h]
def je{es:EL}{t:Bool}(h:kx C es L U=.ok t ae):bQ C (.and es) L U=.ok t ae:=by rw[tK,h]
def any_nil:ky C .nil L U=.ok false U:=rfl
def all_nil:kx C .nil L U=.ok true U:=rfl
def any_cons{es:EL}{t t':Bool}(d:bQ C a L U=.ok t ae)(e:t=false->ky C es L ae=.ok t' ao)(f:t=true->t'=true/\ao=ae):ky C (.cons a es) L U=.ok t' ao:=by
 rw[Mb,aN d];clear d;cases t with
|false=>exact e rfl
|true=>obtain⟨rfl,rfl⟩:=f rfl;rfl
def all_cons{es:EL}{t t':Bool}(d:bQ C a L U=.ok t ae)(e:t=true->kx C es L ae=.ok t' ao)(f:t=false->t'=false/\ao=ae):kx C (.cons a es) L U=.ok t' ao:=by
 rw[Ma,aN d];clear d;cases t with
|true=>exact e rfl
|false=>obtain⟨rfl,rfl⟩:=f rfl;rfl
def dP{l:Nat}{k:Int}{vs:List V}(h:U[l]?=some (.af vs))(d:vs[k.toNat]?=some x)(e:0<=k)(f:k<0x4000000000000000):index C (.ref l) (.int k) U=.ok x U:=by simp only[yO,yP,yQ,yR,vz];rw[aN (a:=vs) (ae:=U) (by simp[bO,M.bind,cH,h,M.pure])];simp only[fc,e,f,and_self,if_true,d];rfl
end
structure Base(P:Prog):Prop where
 cell:P.fns 3=some vd
 mixed:P.fns 4=some yz
 drawn:P.fns 5=some CT
 name:P.fns 7=some vr
 next:P.fns 8=some Dj
 aD:P.fns 9=some vg
abbrev cellAt(sc:List Int)(k:Int):Int:=if k<sc.length then sc.getD k.toNat 0 else 0
abbrev rQ(sc:List Int)(k:Int):Int:=((cellAt sc k+7919*k)*48271).fmod 2147483647
abbrev mixed(sc:List Int)(k:Int):Int:=(rQ sc k*rQ sc k+7*rQ sc k+k).fmod 2147483629
section
variable{P:Prog}{sc:List Int}(B:Base P)
include B
def MD{n:Nat}{k:Int}(hk:0<=k)(a:sc.length<=63)(U:H):av P sc (n+1) 3 [.cF,.int k] U=.ok (.int (cellAt sc k)) U:=by
 rw[cI B.cell rfl]
 by_cases h:k<sc.length
 ·have b:k<0x4000000000000000:=cS 0x1c01c01c01c01c01c01c01c01c01e406130124124124817f1e034534184c rfl (Int.ofNat_le.mpr a) h;have c:sc[k.toNat]?=some (sc.getD k.toNat 0):=by
   have:k.toNat<sc.length:=su hk h;simp[List.getD,List.getElem?_eq_getElem this]
  simp[vd,rg,rh,ot,kT,ml,ou,ox,me,kS,n6,wD,tK,wF,wG,zG,zH,wH,zI,vJ,pR,pT,om,pU,pV,oo,oq,nT,pG,nU,nV,l9,ma,nW,mc,kR,jA,nX,nY,nZ,pH,pJ,n0,md,n5,Qh.N.bind,Qh.N.lift,M.bind,M.pure,dD,rj,rk,rm,DB,DC,DD,yS,lZ,pf,Dy,Dz,DA,qV,sU,vA,yO,yP,yQ,yR,vz,fc,ph,pj,pk,pn,cellAt,h,b,c,hk,Qh.N.pure]
 ·simp[vd,rg,rh,ot,kT,ml,ou,ox,me,kS,n6,wD,tK,wF,wG,zG,zH,wH,zI,vJ,pR,pT,om,pU,pV,oo,oq,nT,pG,nU,nV,l9,ma,nW,mc,kR,jA,nX,nY,nZ,pH,pJ,n0,md,n5,Qh.N.bind,Qh.N.lift,M.bind,M.pure,dD,rj,rk,rm,DB,DC,DD,yS,lZ,pf,Dy,Dz,DA,qV,sU,vA,yO,yP,yQ,yR,vz,fc,ph,pj,pk,pn,cellAt,h,hk,Qh.N.pure]
omit B in
def zP{x:Int}(a:0<=x)(b:x<0x10000000000000000):small x=true:=Bool.and_eq_true_iff.mpr #[decide_eq_true (Int.lt_of_lt_of_le ∅ a),decide_eq_true b]
omit B in
def xa{x y r:Int}(h:0<y)(e:x.fmod y=r){U:H}:binop .Mod (.int x) (.int y) U=.ok (.int r) U:=e▸congrFun (if_neg (Int.ne_of_gt h)) U
omit B in
def RJ{x:Int}{n:Nat}(h:0<n)(a:n<1073741824){U:H}:binop .FloorDiv (.int x) (.int n) U=.ok (.int (x.fdiv n)) U:=congrFun (if_neg (λq=>q.elim (λe=>Nat.ne_of_gt h (Int.ofNat.inj e)) (λe=>e a))) U
def kW{a b:Int}(hb:0<b):0<=a.fmod b/\a.fmod b<b:=#[Int.fmod_nonneg_of_pos a hb,Int.fmod_lt_of_pos a hb]
def yK{n:Nat}{k:Int}(hk:0<=k)(e:sc.length<=63)(U:H):av P sc (n+2) 4 [.cF,.int k] U=.ok (.int (mixed sc k)) U:=by
 rw[cI B.mixed rfl];have c:=kW (P:=P) B (a:=(cellAt sc k+7919*k)*48271) (b:=2147483647) ∅;have d:small (rQ sc k)=true:=by
  exact zP c.1 (Int.lt_trans c.2 ∅)
 have f:small 7919=true:=by decide
 have g:small 48271=true:=by decide
 have h:small 7=true:=by decide
 simp only[rQ] at d;simp[yz,rg,rh,ot,kT,ml,ou,ox,me,kS,n6,wD,tK,wF,wG,zG,zH,wH,zI,vJ,pR,pT,om,pU,pV,oo,oq,nT,pG,nU,nV,l9,ma,nW,mc,kR,jA,nX,nY,nZ,pH,pJ,n0,md,n5,Nf,y4,Qh.N.bind,Qh.N.lift,M.bind,M.pure,dD,rj,rk,rm,y5,y9,za,ph,pj,pk,pn,Qh.N.pure,Qh.N.put,MD B hk e,pq,pw,j4,pz,pA,pB,pC,pD,pE,d,f,g,h,mixed,rQ]
def F1{U:H}{l:Nat}{vs:List V}(h:U[l]?=some (.af vs)):bO (.ref l) U=.ok vs U:=by simp[bO,M.bind,cH,h,M.pure]
end
abbrev k9(x:Str):Prop:=(∀c∈x.cps.toList,97<=c/\c<=122)/\x.cps.size<=8
abbrev rJ:Str:="abcdefghijklmnopqrstuvwxyz"
def LR(a:0<=j)(b:j<26)(U:H):∃c,fc rJ.cps.toList j U=.ok c U/\97<=c/\c<=122:=by
 have d:rJ.cps.toList=(List.range 26).map (·+97):=by decide+kernel
 have e:j<0x4000000000000000:=bw 0x700700700700700700700700700790184c049049205e8184c rfl b;have:j.toNat<26:=su a b;refine#[j.toNat+97,?_,by(exact ee _ _),Nat.le_of_lt_succ (Nat.add_lt_add_right this 97)];simp[fc,a,e,d,dD,this,M.pure]
def ME{f:V->M (Option V)}{R:V->Prop}(g:∀v∈vs,∃u,f v U=.ok (some u) U/\R u):
  ∀(rest a:List V),vs=a++rest->∃us,dG (.fix vs) f (rest.length+1) a.length U=.ok us U/\us.length=rest.length/\∀u∈us,R u:=by
 intro rest
 induction rest with
|nil=>
  intro a b;exact#[[],kM (by simp[qW,jz,M.pure,b]),rfl,λ_ h=>nomatch h]
|cons v rest i=>
  intro a b;refine ct (i (a++[v]) (by(refine b▸?_);simp)) λus c j k=>aQ (g v (by(refine b▸?_);simp)) λu d l=>#[u::us,?_,by simp[j],λw e=>?_]
  ·replace c:=(List.length_singleton)▸((List.length_append)▸c);exact gF (by simp[qW,jz,M.pure,b]) d c
  ·rcases List.mem_cons.mp e with q|q
   ·(clear e d;subst q);exact l
   ·exact k w q
def DZ:∀(us:List V),(∀u∈us,∃c,u=.str #[(List.toArray [c])]/\97<=c/\c<=122)->∃a,strsOf us=some a/\(a.map Str.length).sum=us.length/\(∀c∈(Str.join "" a).cps.toList,97<=c/\c<=122)/\(Str.join "" a).cps.size=us.length
|[]=>λ_=>#[[],rfl,rfl,λc h=>by simp[Str.join,Str.empty] at h,rfl]
|u::us=>λh=>by
  refine oE (DZ us λw m=>h w (.tail _ m)) λa i j l k=>ct (h u (.head _)) λc n f g=>?_;clear h;subst n;refine#[#[(List.toArray [c])]::a,by simp[Lw,C1,i],by simp[j,Str.length];exact cm (a7 zp rfl) (a7 v3 rfl),?_,?_]
  ·clear k j i;cases a with
   |nil=>intro d b;simp[Str.join] at b;subst b;exact#[f,g]
   |cons s a=>
    intro d b;have e:(Str.join (Str.ofString "") (#[(List.toArray [c])]::s::a)).cps.toList=c::(Str.join (Str.ofString "") (s::a)).cps.toList:=by
     show(((List.toArray [c])++(Str.ofString "").cps)++(Str.join (Str.ofString "") (s::a)).cps).toList=_;have:(Str.ofString "").cps=(List.toArray []):=by decide+kernel
     (refine this▸?_);simp
    replace b:=e▸b;rcases List.mem_cons.mp b with q|q
    ·subst q;exact#[f,g]
    ·exact l d q
  ·clear l j i;cases a with
   |nil=>
    have:us.length=0:=by(refine k▸?_);rfl
    simp[Str.join,this]
   |cons s a=>
    have e:(Str.join (Str.ofString "") (#[(List.toArray [c])]::s::a)).cps.size=1+(Str.join (Str.ofString "") (s::a)).cps.size:=by
     show(((List.toArray [c])++(Str.ofString "").cps)++(Str.join (Str.ofString "") (s::a)).cps).size=_;have:(Str.ofString "").cps=(List.toArray []):=by decide+kernel
     (refine this▸?_);simp
    (refine e▸?_;refine k▸?_);simp[Nat.add_comm]
abbrev p8:List String:=["num","name","let","quote","hole","run","use","lift"]
def N8:∀w∈p8,k9 (Str.ofString w):=by
 have h:∀w∈p8,((Str.ofString w).cps.toList.all (λc=>97<=c&&c<=122))=true/\(Str.ofString w).cps.size<=8:=by decide+kernel
 intro w a;refine aX (h w a) λb d=>#[λc e=>?_,d];have:=List.all_eq_true.mp b c e
 simpa using this
def GL(U:H)(o:O):(U++[o])[U.length]?=some o:=by rw[List.getElem?_append_right (aU _),Nat.sub_self];rfl
def Dp(U:H)(vs:List V):bO (.ref U.length) (U++[.af vs])=.ok vs (U++[.af vs]):=by show M.bind (cH _) _ _=_;rw[aN (show cH U.length (U++[.af vs])=.ok (.af vs) (U++[.af vs]) by simp only[cH,GL])];rfl
def Ll(h:cT C s L U=a8 C b L ae)(a:a8 C b L ae=.ok (.ret v) L1 ao):a8 C (.cons s r) L U=.ok (.ret v) L1 ao:=vS (h.trans a)
def MF(d:aj C c L U=.ok z ae)(e:aj C a L ae=.ok x ao)(f:aj C b L ao=.ok y b9)(g:iB x y z b9=.ok Unit.unit nJ):cT C (.eX a b c) L U=.ok .next L nJ:=by simp only[kT,Qh.N.bind,Qh.N.lift,d,e,f,g,Qh.N.pure]
def PZ(c:aj C a L U=.ok x ae)(d:aj C b L ae=.ok y ao)(e:joinM x y ao=.ok r b9):aj C (.join a b) L U=.ok r b9:=by(refine n0▸?_;refine(aN c)▸?_;refine(aN d)▸?_;refine e▸?_;with_reducible rfl)
section
variable{P:Prog}{sc:List Int}(B:Base P)
include B
def MG(hs:sc.length<=63)(U:H):∃x τ,av P sc (n+3) 7 [.cF,.int w] U=.ok (.str x) (U++τ)/\k9 x:=by
 suffices z:∃x τ L',a8 (cx P sc (n+2)) vr.body [some .cF,some (.int w),none,none,none,none,none,none] U=.ok (.ret (.str x)) L' (U++τ)/\k9 x by
  refine g9 (z) λx τ L' e D=>#[x,τ,?_,D];rw[cI B.name rfl];exact(congrArg cp e).trans rfl
 have Y:∀(L:aP)(U:H),cy L 0=some .cF->aj (cx P sc (n+2)) (.call 4 {.aa 0,.int 0}) L U=.ok (.int (mixed sc 0)) U:=λL U h=>
  aT (aS h rfl) (yK B (bk 0) hs U)
 generalize mixed sc 0=N at Y;have Z:a8 (cx P sc (n+2)) vr.body [some .cF,some (.int w),none,none,none,none,none,none] U=_:=(bj rfl).trans (bj (Y _ _ rfl));have g:bQ (cx P sc (n+2)) (.and {.cmp .Eq (.ak .Mod (.aa 3) (.int 8)) (.int 7),.cmp .Eq (.ak .Mod (.ak .FloorDiv (.aa 3) (.int 8)) (.int 2)) (.int 0)}) [some .cF,some (.int w),some (.str rJ),some (.int N),none,none,none,none] U=.ok (N.fmod 8==7&&(N.fdiv 8).fmod 2==0) U:=by
  refine je (all_cons rfl (λq=>all_cons rfl (λF=>?_) (λF=>?_)) (λq=>?_))
  ·(refine q▸?_;refine F.symm▸?_);exact all_nil
  ·(refine q▸?_;refine F▸?_);exact#[rfl,rfl]
  ·(refine q.symm▸?_);exact#[rfl,rfl]
 cases hc:(N.fmod 8==7&&(N.fdiv 8).fmod 2==0) with
|true=>
  replace g:=hc▸g;have d:=kW B (a:=N.fdiv 16+w) (b:=8) ∅;generalize sD:(N.fdiv 16+w).fmod 8=j at d;have z:∃x,(p8.map λx=>V.str (Str.ofString x))[j.toNat]?=some (.str (Str.ofString x))/\x∈p8:=by
   have:j.toNat<p8.length:=su d.1 d.2;refine#[p8[j.toNat],?_,List.getElem_mem this];simp[this]
  refine aQ (z) λx D VU=>#[Str.ofString x,[.af (p8.map λx=>.str (Str.ofString x))],_,Z.trans (Ll (jD g) ((bj rfl).trans (bq (cC (aB rfl) (bX rfl rfl (by(refine sD▸?_);rfl)) (dP (GL _ _) D d.1 (bw 0x700700700700700700700700700790184c049049205a0184c rfl d.2)))))),N8 x VU]
|false=>
  replace g:=hc▸g;have i:=kW B (a:=N) (b:=8) ∅;generalize G:1+N.fmod 8=S;have l:1<=S/\S<=8:=#[cS 0xc84124024124124814d806301361 rfl i.1 G,cS 0x28301241240241248168061346301361 rfl i.2 G];have m:=kW (P:=P) B (a:=N.fdiv 8) (b:=S) (bw v7 rfl l.1);generalize hA:(N.fdiv 8).fmod S=A at m;have IG:∀(C:Ctx)(j:Int)(U:H),0<=j->j<26->∃u,index C (.str rJ) (.int j) U=.ok u U/\∃c,u=.str #[(List.toArray [c])]/\97<=c/\c<=122:=λC j U h0 o=>by
   exact aQ (LR h0 o U) λc I J=>#[.str #[(List.toArray [c])],(aN I).trans rfl,c,rfl,J]
  have gL:∃us,aj (cx P sc (n+2)) (.fZ (.aq (.aa 2) (.ak .Mod (.ak .Add (.ak .FloorDiv (.aa 3) (.int 64)) (.ak .Mult (.int 5) (.aa 7))) (.int 26))) 7 [2,3] (.aa 4))
    [some .cF,some (.int w),some (.str rJ),some (.int N),some (.int S),none,none,none] U=.ok (.ref U.length) (U++[.af us])/\us.length=S.toNat/\∀u∈us,∃c,u=.str #[(List.toArray [c])]/\97<=c/\c<=122:=by
   have hf:∀v∈d9 S,∃u,(λit=>M.bind (aj (cx P sc (n+2)) (.aq (.aa 2) (.ak .Mod (.ak .Add (.ak .FloorDiv (.aa 3) (.int 64)) (.ak .Mult (.int 5) (.aa 7))) (.int 26))) (cq (dj [some .cF,some (.int w),some (.str rJ),some (.int N),some (.int S),none,none,none] [2,3]) 7 it)) λy=>M.pure (some y)) v U=.ok (some u) U/\∃c,u=.str #[(List.toArray [c])]/\97<=c/\c<=122:=by
    intro v p;simp only[d9,List.mem_map,List.mem_range] at p;obtain⟨k,hk,rfl⟩:=p;have d:=kW B (a:=N.fdiv 64+5*(k:Int)) (b:=26) ∅;exact aQ (IG (cx P sc (n+2)) _ U d.1 d.2) λu s t=>#[u,(aN (cC (aB rfl) (bX rfl rfl rfl) s)).trans rfl,t]
   refine ct (ME hf (d9 S) [] rfl) λus o I J=>?_;have f:(d9 S).length=S.toNat:=by simp[d9]
   refine#[us,?_,by(refine I▸?_;refine f▸?_;with_reducible rfl),J];replace o:=f▸o;exact MC rfl #[~~~cS 0xc80124124124814d80530184d rfl m.1 m.2,~~~bw 0x7247d078cc049049205a0c rfl l.2] o
  refine bB λXx aH=>ct (gL) λus K t VV=>?_;have r:binop .Mod (.int (N.fdiv 8)) (.int S) (U++[.af us])=.ok (.int A) (U++[.af us]):=xa l.1 hA;have d:=kW B (a:=N.fdiv 64+5*A+w) (b:=26) ∅;refine aQ (IG (cx P sc (n+2)) _ (U++[.af us]) d.1 d.2) λu s BW=>?_;have Q:us.length<=8:=t▸Int.toNat_le.mpr l.2
  obtain⟨R,T,X,BY,VW⟩:=DZ (us.set A.toNat u) (λv p=>by
   rcases List.mem_or_eq_of_mem_set p with q|q
   ·exact VV v q
   ·(clear p s;subst q);exact BW)
  refine aH ?_;have hl:(us.set A.toNat u).length=us.length:=by simp
  have Bk:iB (.ref U.length) (.int A) u (U++[.af us])=.ok Unit.unit (U++[.af (us.set A.toNat u)]):=by
   rw[CD,aN (Dp _ _),if_pos #[m.1,t.symm▸(Int.toNat_of_nonneg (Int.le_of_lt l.1)).symm▸m.2,bZ Q ∅]];show Res.ok Unit.unit _=_;simp
  have VX:joinM (.str (Str.ofString "")) (.ref U.length) (U++[.af (us.set A.toNat u)])=.ok (.str (Str.join (Str.ofString "") R)) (U++[.af (us.set A.toNat u)]):=by
   show M.bind (bO _) _ _=_;refine(aN (Dp _ _))▸T▸?_;show(if(Str.ofString "").length=0/\(R.map Str.length).sum<=aJ then _ else _:M V) _=_;rw[if_pos #[by decide+kernel,by(refine X▸?_;refine hl▸?_);exact bZ Q ∅]];rfl
  refine#[Str.join "" R,[.af (us.set A.toNat u)],_,((Z.trans ((dt ((pO g).trans eU)).trans (bj (by(refine G▸?_);rfl)))).trans ((bj K).trans (bj (bX rfl (aB rfl) r)))).trans ((dt (MF (cC (aB rfl) (bX rfl rfl rfl) s) (aB rfl) (aB rfl) Bk)).trans (bq (PZ rfl (aB rfl) VX))),BY,by(refine VW▸?_;refine hl▸?_);exact Q]
end
inductive U1 where|bK|hole|lift|run
inductive U2 where|sum|product|less
set_option genCtorIdx false in
inductive Tm where
|num (i:Int)|name (x:Str)|un (w:U1) (a:Tm)|use (f:Str) (a:Tm)|ak (w:U2) (a b:Tm)
|aY (x:Str) (a b:Tm)|bg (k:Int) (x:Str) (a b:Tm)|def_ (f x kd:Str) (a b:Tm)|when (a b c:Tm)
abbrev U1.str:U1->Str
|.bK=>"quote"|.hole=>"hole"|.lift=>"lift"|.run=>"run"
abbrev U2.str:U2->Str
|.sum=>"sum"|.product=>"product"|.less=>"less"
abbrev Tm.ag:Tm->V
|.num i=>.ay [.str "num",.int i]
|.name x=>.ay [.str "name",.str x]
|.un w a=>.ay [.str w.str,a.ag]
|.use f a=>.ay [.str "use",.str f,a.ag]
|.ak w a b=>.ay [.str w.str,a.ag,b.ag]
|.aY x a b=>.ay [.str "let",.str x,a.ag,b.ag]
|.bg k x a b=>.ay [.str "turns",.int k,.str x,a.ag,b.ag]
|.def_ f x d a b=>.ay [.str "def",.str f,.str x,.str d,a.ag,b.ag]
|.when a b c=>.ay [.str "when",a.ag,b.ag,c.ag]
def mU:(Tm.num i).ag=.ay [.str "num",.int i]:=rfl
def mV:(Tm.name x).ag=.ay [.str "name",.str x]:=rfl
def mW:(Tm.un w a).ag=.ay [.str w.str,a.ag]:=rfl
def mX:(Tm.use f a).ag=.ay [.str "use",.str f,a.ag]:=rfl
def mY:(Tm.ak w a b).ag=.ay [.str w.str,a.ag,b.ag]:=rfl
def mZ:(Tm.aY x a b).ag=.ay [.str "let",.str x,a.ag,b.ag]:=rfl
def m4:(Tm.bg k x a b).ag=.ay [.str "turns",.int k,.str x,a.ag,b.ag]:=rfl
def m5:(Tm.def_ f x kd a b).ag=.ay [.str "def",.str f,.str x,.str kd,a.ag,b.ag]:=rfl
def m6:(Tm.when a b c).ag=.ay [.str "when",a.ag,b.ag,c.ag]:=rfl
abbrev Tm.parts:Tm->List Tm
|.num _=>[]|.name _=>[]|.un _ a=>[a]|.use _ a=>[a]|.ak _ a b=>[a,b]|.aY _ a b=>[a,b]|.bg _ _ a b=>[a,b]|.def_ _ _ _ a b=>[a,b]|.when a b c=>[a,b,c]
def IH:(Tm.num u1).parts=[]:=rfl
def II:(Tm.name u1).parts=[]:=rfl
def IJ:(Tm.un u1 a).parts=[a]:=rfl
def IK:(Tm.use u1 a).parts=[a]:=rfl
def IL:(Tm.ak u1 a b).parts=[a,b]:=rfl
def IM:(Tm.aY u1 a b).parts=[a,b]:=rfl
def IP:(Tm.bg u1 u2 a b).parts=[a,b]:=rfl
def IQ:(Tm.def_ u1 u2 u3 a b).parts=[a,b]:=rfl
def IS:(Tm.when a b c).parts=[a,b,c]:=rfl
abbrev Tm.size:Tm->Nat
|.num _=>1|.name _=>1|.un _ a=>1+a.size|.use _ a=>1+a.size|.ak _ a b=>1+(a.size+b.size)|.aY _ a b=>1+(a.size+b.size)|.bg _ _ a b=>1+(a.size+b.size)|.def_ _ _ _ a b=>1+(a.size+b.size)
|.when a b c=>1+(a.size+(b.size+c.size))
def UE:(Tm.num u1).size=1:=rfl
def UG:(Tm.name u1).size=1:=rfl
def UH:(Tm.un u1 a).size=1+a.size:=rfl
def UI:(Tm.use u1 a).size=1+a.size:=rfl
def UJ:(Tm.ak u1 a b).size=1+(a.size+b.size):=rfl
def UK:(Tm.aY u1 a b).size=1+(a.size+b.size):=rfl
def UL:(Tm.bg u1 u2 a b).size=1+(a.size+b.size):=rfl
def UM:(Tm.def_ u1 u2 u3 a b).size=1+(a.size+b.size):=rfl
def UN:(Tm.when a b c).size=1+(a.size+(b.size+c.size)):=rfl
abbrev Tm.depth:Tm->Nat
|.num _=>1|.name _=>1|.un _ a=>1+a.depth|.use _ a=>1+a.depth|.ak _ a b=>1+max a.depth b.depth|.aY _ a b=>1+max a.depth b.depth|.bg _ _ a b=>1+max a.depth b.depth
|.def_ _ _ _ a b=>1+max a.depth b.depth|.when a b c=>1+max a.depth (max b.depth c.depth)
def lx:(Tm.num u1).depth=1:=rfl
def ly:(Tm.name u1).depth=1:=rfl
def lz:(Tm.un u1 a).depth=1+a.depth:=rfl
def lA:(Tm.use u1 a).depth=1+a.depth:=rfl
def lB:(Tm.ak u1 a b).depth=1+max a.depth b.depth:=rfl
def lC:(Tm.aY u1 a b).depth=1+max a.depth b.depth:=rfl
def lD:(Tm.bg u1 u2 a b).depth=1+max a.depth b.depth:=rfl
def lE:(Tm.def_ u1 u2 u3 a b).depth=1+max a.depth b.depth:=rfl
def lF:(Tm.when a b c).depth=1+max a.depth (max b.depth c.depth):=rfl
def mL{a b:Nat}:a<=max a b:=e9 _ _
def mR{a b:Nat}:b<=max a b:=fL _ _
def mM{a b c:Nat}:b<=max a (max b c):=bZ mL mR
def mC{a b c:Nat}:c<=max a (max b c):=bZ mR mR
def k3(a:x<=y)(h:3*(1+y)<=m):3*x+3<=m:=bD 0xd06310c8c124124324814e30534404e863 rfl a h
def nK(a:x<=y)(h:3*(1+y)<=m):3*x+3<=m+1:=kF (k3 a h)
def VY(a:x<=y)(h:3*(1+y)<=m):3*x+3<=m+2:=kF (nK a h)
def z1(a:x<=y)(h:e+(1+y)<=m):e+1+x<=m:=ej 0xe04d06130124124124814f34538104f84c rfl a h
def zz(a:x<=y)(h:e+(1+y)<=m):e+x<=m:=bZ (Nat.add_le_add_right (Nat.le_succ e) x) (z1 a h)
def nd(a:x<=y)(h:1+y<=n+1):x<=n:=bD 0xd30124124124814e3050613413a1 rfl a h
def qO(h:1+y<=n):n=n-1+1:=cm (a7 iW rfl) (aM 0x30184284c201248049009049205301361 rfl h)
abbrev Tm.Ok:Tm->Prop
|.num _=>True|.name x=>k9 x|.un _ a=>a.Ok|.use f a=>k9 f/\a.Ok|.ak _ a b=>a.Ok/\b.Ok|.aY x a b=>k9 x/\a.Ok/\b.Ok
|.bg k x a b=>(0<=k/\k<=9)/\k9 x/\a.Ok/\b.Ok|.def_ f x d a b=>k9 f/\k9 x/\(d="number"∨d="piece")/\a.Ok/\b.Ok|.when a b c=>a.Ok/\b.Ok/\c.Ok
section
variable{P:Prog}{sc:List Int}(B:Base P)
include B
omit B in
def Qa{is:List Int}(h:k<is.length):∃i,(is.map V.int)[k]?=some (.int i):=#[is[k],List.getElem?_map.trans (congrArg (Option.map V.int) (List.getElem?_eq_getElem h))]
def CV{n:Nat}(U:H):∃i τ,av P sc (n+1) 9 [.int x] U=.ok (.int i) (U++τ):=by
 rw[cI B.aD rfl];show ∃i τ,cp (a8 (cx P sc n) vg.body [some (.int x),none] U)=Res.ok (V.int i) (U++τ);have c:=kW (P:=P) B (a:=x.fdiv 1000) (b:=6) ∅;generalize g:(x.fdiv 1000).fmod 6=j at c;have r:small 1000003=true:=by decide
 have s:small 10=true:=by decide
 generalize f:[V.int (x.fmod 3),.int (x.fmod 1000),.int (-1-x.fmod 9),.int (1000003*x.fmod 2+x.fmod 5),.int ((10:Int)^20)]=v5;have d:v5.length=5:=by rw[←f];rfl
 have e:∃i,(v5++[.int (-x)])[j.toNat]?=some (.int i):=by
  rw[←f];exact Qa (is:=[x.fmod 3,x.fmod 1000,-1-x.fmod 9,1000003*x.fmod 2+x.fmod 5,(10:Int)^20,-x]) (su c.1 c.2)
 obtain⟨i,h⟩:=e;refine#[i,[.af v5,.af [.int (-x)],.af (v5++[.int (-x)])],?_];have k:(U++[O.af v5]++[O.af [V.int (-x)]])[U.length]?=some (.af v5):=by simp
 have l:(U++[O.af v5]++[O.af [V.int (-x)]])[(U++[O.af v5]).length]?=some (.af [.int (-x)]):=by simp
 have m:(U++[O.af v5]++[O.af [V.int (-x)]]++[O.af (v5++[V.int (-x)])])[(U++[O.af v5]++[O.af [V.int (-x)]]).length]?=some (.af (v5++[.int (-x)])):=by simp
 have o:aj (cx P sc n) (.af {.neg (.aa 0)}) [some (.int x),some (.ref U.length)] (U++[.af v5])=.ok (.ref (U++[O.af v5]).length) (U++[O.af v5]++[O.af [V.int (-x)]]):=
  dE rfl (by simp[aJ])
 have p:aj (cx P sc n) (.ak .Add (.aa 1) (.af {.neg (.aa 0)})) [some (.int x),some (.ref U.length)] (U++[.af v5])=.ok (.ref (U++[O.af v5]++[O.af [V.int (-x)]]).length) (U++[O.af v5]++[O.af [V.int (-x)]]++[O.af (v5++[V.int (-x)])]):=by
  refine bX (aB rfl) o ?_;simp only[pq,pw,j4,pz,pA,pB,pC,pD,pE];rw[aN (F1 B k),aN (F1 B l),if_pos (by rw[d];simp[aJ])]
  rfl
 have t:∀U,aj (cx P sc n) (.ak .Mod (.ak .FloorDiv (.aa 0) (.int 1000)) (.int 6)) [some (.int x),some (.ref U.length)] U=.ok (.int j) U:=λU=>by
  simp[pR,pT,om,pU,pV,oo,oq,nT,pG,nU,nV,l9,ma,nW,mc,kR,jA,nX,nY,nZ,pH,pJ,n0,md,n5,M.bind,M.pure,dD,rj,rk,rm,y5,y9,za,pq,pw,j4,pz,pA,pB,pC,pD,pE,g]
 have q:aj (cx P sc n) (.af {.ak .Mod (.aa 0) (.int 3),.ak .Mod (.aa 0) (.int 1000),.ak .Sub (.neg (.int 1)) (.ak .Mod (.aa 0) (.int 9)),.ak .Add (.ak .Mult (.int 1000003) (.ak .Mod (.aa 0) (.int 2))) (.ak .Mod (.aa 0) (.int 5)),.ak .Pow (.int 10) (.int 20)}) [some (.int x),none] U=.ok (.ref U.length) (U++[.af v5]):=by
  rw[←f];refine dE ?_ (by simp[aJ])
  rfl
 unfold vg;rw[bj q];show cp (a8 _ _ [some (.int x),some (.ref U.length)] _)=_;rw[bq (cC p (by simp[pR,pT,om,pU,pV,oo,oq,nT,pG,nU,nV,l9,ma,nW,mc,kR,jA,nX,nY,nZ,pH,pJ,n0,md,n5,M.bind,M.pure,dD,rj,rk,rm,y5,y9,za,pq,pw,j4,pz,pA,pB,pC,pD,pE,g]) (dP m h c.1 (bw 0x700700700700700700700700700790184c04904920598184c rfl c.2)))];simp[ph,pj,pk,pn]
end
abbrev SL.drop:Nat->SL->SL
|0,s=>s
|n+1,.cons _ r=>SL.drop n r
|_+1,.nil=>.nil
def cj(h:bQ C c L U=.ok false ae):a8 C (.cons (.ite c t .nil) r) L U=a8 C r L ae:=by rw[dt];rw[pO h];rfl
abbrev SL.dr:Nat->SL->SL
|0,b=>b
|_+1,.nil=>.nil
|k+1,.cons _ r=>r.dr k
abbrev isIf:S->Option E
|.ite c _ .nil=>some c
|_=>none
def MH(h:isIf s=some c)(e:bQ C c L U=.ok false ae):a8 C (.cons s r) L U=a8 C r L ae:=by
 cases s with
|ite c' t e'=>cases e' with
  |nil=>exact cj ((Option.some.inj h)▸e)
  |cons _ _=>exact bR h
|_=>exact bR h
abbrev xC(C:Ctx):Nat->SL->aP->H->Option H
|0,_,_,U=>some U
|_+1,.nil,_,_=>none
|k+1,.cons s r,L,U=>match isIf s with
  |none=>none
  |some c=>match bQ C c L U with
   |.ok false a=>xC C k r L a
   |_=>none
def jmp(k:Nat)(h:xC C k b L U=some a)(d:a8 C (b.dr k) L a=r):a8 C b L U=r:=by
 subst d
 induction k generalizing b U with
|zero=>exact Option.some.inj h▸rfl
|succ k f=>
  cases b with
  |nil=>exact bR h
  |cons s b=>
   have h:(match isIf s with|none=>none|some c=>match bQ C c L U with|.ok false a=>xC C k b L a|_=>none)=some a:=h;cases e0:isIf s with
   |none=>rw[e0] at h;exact bR h
   |some c=>
    rw[e0] at h;have h:(match bQ C c L U with|.ok false a=>xC C k b L a|_=>none)=some a:=h;cases e:bQ C c L U with
    |ok x ae=>rw[e] at h;cases x with
     |false=>exact(MH e0 e).trans (f h)
     |true=>exact bR h
    |aF c' ae=>rw[e] at h;exact bR h
    |bad=>rw[e] at h;exact bR h
def cu(h:bQ C c L U=.ok true ae)(a:a8 C t L ae=.ok (.ret v) L1 ao):a8 C (.cons (.ite c t .nil) r) L U=.ok (.ret v) L1 ao:=
 vS (by rw[jD h];exact a)
def HJ(x y:Int)(U:H):dh .Lt (.int x) (.int y) U=.ok (decide (x<y)) U:=rfl
def xb(x y:Int)(U:H):dh .Eq (.int x) (.int y) U=.ok (x==y) U:=rfl
section
variable{P:Prog}{sc:List Int}
def Dq(c:P.fns 0=some sQ)(t:Tm)(n:Nat)(U:H):av P sc (n+1) 0 [t.ag] U=.ok (.ref U.length) (U++[.af (t.parts.map Tm.ag)]):=by
 rw[cI c rfl];cases t with
|un w a=>cases w<;>rfl'
|ak w a b=>cases w<;>rfl'
|_=>rfl'
def yF(c:P.fns 10=some yA)(t:Tm)(n:Nat)(U:H):av P sc (n+1) 10 [t.ag] U=.ok (.ref U.length) (U++[.af (t.parts.map Tm.ag)]):=by
 rw[cI c rfl];cases t with
|un w a=>cases w<;>rfl'
|ak w a b=>cases w<;>rfl'
|_=>rfl'
def Dr(a:P.fns 6=some vj)(i:Int)(n:Nat)(U:H):av P sc (n+1) 6 [.int i] U=.ok (.bool true) U:=by rw[cI a rfl];simp[vj,rg,rh,ot,kT,ml,ou,ox,me,kS,n6,pR,pT,om,pU,pV,oo,oq,nT,pG,nU,nV,l9,ma,nW,mc,kR,jA,nX,nY,nZ,pH,pJ,n0,md,n5,yT,vB,Qh.N.bind,Qh.N.lift,M.bind,M.pure,dD,rj,rk,rm,Lr,Ls,CZ,C0,Lu,gw,ph,pj,pk,pn,Qh.N.pure,sM]
def Ds(e:∀t∈ts,∀U,∃τ,f t.ag U=.ok (some (g t)) (U++τ)):
  ∀(rest a:List Tm)(U:H),ts=a++rest->U[l]?=some (.af (ts.map Tm.ag))->∃τ,dG (.live l) f (rest.length+1) a.length U=.ok (rest.map g) (U++τ):=by
 intro rest
 induction rest with
|nil=>
  intro a U b c;refine#[[],?_];rw[kM (ae:=U)]
  ·simp
  ·simp[qW,jz,M.bind,bO,cH,c,M.pure,b]
|cons t rest h=>
  intro a U b c;obtain⟨τ,i⟩:=e t (by rw[b];simp) U;obtain⟨j,d⟩:=h (a++[t]) (U++τ) (by rw[b];simp) (by rw[List.getElem?_append_left (List.getElem?_eq_some_iff.mp c).1];exact c);refine#[τ++j,?_];rw[List.length_append,List.length_singleton] at d;have:=gF (y:=some (g t)) (s:=.live l) (k:=a.length) (U:=U) (ae:=U) (v:=t.ag) (by simp[qW,jz,M.bind,bO,cH,c,M.pure,b]) i d;rw[List.length_cons,this];simp
def qU{α:Type}(g:α->Int):∀l:List α,intsOf (l.map λa=>V.int (g a))=some (l.map g)
|[]=>rfl
|a::l=>by simp[Ly,Lz,qU g l]
def Dt(t:Tm):(t.size:Int)=1+((t.parts.map λp=>(p.size:Int)).sum):=by cases t<;>simp[UE,UG,UH,UI,UJ,UK,UL,UM,UN,IH,II,IJ,IK,IL,IM,IP,IQ,IS]
def r8(x y:Nat):(if(y:Int)>x then(y:Int) else x)=((max x y:Nat):Int):=by
 rcases Nat.lt_or_ge x y with h|h
 ·exact(if_pos (Int.ofNat_lt.mpr h)).trans (congrArg Int.ofNat (Nat.max_eq_right (Nat.le_of_lt h)).symm)
 ·exact(if_neg (Int.not_lt.mpr (Int.ofNat_le.mpr h))).trans (congrArg Int.ofNat (Nat.max_eq_left h).symm)
def dL:x+1<=1+max x y:=bZ (Nat.le_of_eq (Nat.add_comm x 1)) (Nat.add_le_add_left (e9 x y) 1)
def dR(h:z+1<=1+y):z+1<=1+max x y:=bZ h (Nat.add_le_add_left (fL x y) 1)
def yf{Q:Tm->Prop}:∀p∈([]:List Tm),Q p:=λ_ m=>nomatch m
def sE{Q:Tm->Prop}{a:Tm}(h:Q a)(g:∀p∈l,Q p):∀p∈a::l,Q p:=λp m=>(List.mem_cons.mp m).elim (λe=>e▸h) (g p)
def dS:x+1<=1+x:=Nat.le_of_eq (Nat.add_comm _ _)
def CW(t:Tm):(t.depth:Int)=1+se (t.parts.map λp=>(p.depth:Int)):=by
 cases t with
|ak _ a b=>exact congrArg (1+·) (r8 a.depth b.depth).symm
|aY _ a b=>exact congrArg (1+·) (r8 a.depth b.depth).symm
|bg _ _ a b=>exact congrArg (1+·) (r8 a.depth b.depth).symm
|def_ _ _ _ a b=>exact congrArg (1+·) (r8 a.depth b.depth).symm
|when a b c=>
  exact congrArg (1+·) (show((max a.depth (max b.depth c.depth):Nat):Int)=(if(c.depth:Int)>(if(b.depth:Int)>a.depth then(b.depth:Int) else a.depth) then(c.depth:Int) else(if(b.depth:Int)>a.depth then(b.depth:Int) else a.depth)) from(r8 a.depth b.depth).symm▸(congrArg Int.ofNat (Nat.max_assoc _ _ _).symm).trans (r8 _ _).symm)
|_=>rfl
def yG(t:Tm):∀p∈t.parts,p.depth+1<=t.depth:=by
 cases t with
|num|name=>exact yf
|un _ a|use _ a=>exact sE dS yf
|ak|aY|bg|def_=>exact sE dL (sE (dR dS) yf)
|when=>exact sE dL (sE (dR dL) (sE (dR (dR dS)) yf))
def rb(t:Tm):t.parts.length<=3:=by cases t<;>simp[IH,II,IJ,IK,IL,IM,IP,IQ,IS]
def vD(t:Tm):1<=t.depth:=by cases t<;>simp[lx,ly,lz,lA,lB,lC,lD,lE,lF]
def yZ(e:P.fns 0=some sQ)(j:P.fns 1=some s8):∀(n:Nat)(t:Tm)(U:H),t.depth<=n->∃τ,av P sc (n+1) 1 [t.ag] U=.ok (.int t.size) (U++τ)
|0=>λt U h=>absurd h (by have:=vD t;exact Nat.not_le.mpr (a7 v7 rfl this))
|n+1=>λt U h=>by
  rw[cI j rfl];show ∃τ,cp (a8 (cx P sc (n+1)) s8.body [some t.ag,none] U)=.ok (V.int t.size) (U++τ);have m:(U++[O.af (t.parts.map Tm.ag)])[U.length]?=some (.af (t.parts.map Tm.ag)):=by simp
  obtain⟨τ,o⟩:=Ds (g:=λt=>.int t.size) (f:=λq=>M.bind (aj (cx P sc (n+1)) (.call 1 {.aa 1}) (cq (dj [some t.ag,none] []) 1 q)) λy=>M.pure (some y)) (l:=U.length) (ts:=t.parts) (λp r s=>by
   obtain⟨τ,u⟩:=yZ e j n p s (by have:=yG t p r;exact bD zq rfl h this);refine#[τ,?_];rw[aN (aT (by rfl) u)]
   rfl) t.parts [] _ rfl m
  have w:srcOf (.ref U.length) (U++[O.af (t.parts.map Tm.ag)])=.ok (.live U.length) (U++[O.af (t.parts.map Tm.ag)]):=by simp[pg,DG,M.bind,bO,cH,M.pure]
  have a:fh (.live U.length) (U++[O.af (t.parts.map Tm.ag)])=.ok t.parts.length (U++[O.af (t.parts.map Tm.ag)]):=by simp[C2,pa,M.bind,bO,cH,M.pure]
  have c:t.parts.length<=aJ:=bZ (rb t) ∅;have k:=mf (aT (aS (i:=0) (L:=[some t.ag,none]) rfl a6) (Dq e t n U)) w a c o;generalize d:U++[O.af (t.parts.map Tm.ag)]++τ=ao at k;have b:oR (.ref ao.length) (ao++[.af (t.parts.map λt=>.int t.size)])=.ok (.int (t.parts.map λp=>(p.size:Int)).sum) (ao++[.af (t.parts.map λt=>.int t.size)]):=by
   simp[oR,M.bind,bO,cH,M.pure,qU,dD]
  refine#[[O.af (t.parts.map Tm.ag)]++τ++[.af (t.parts.map λt=>.int t.size)],?_];unfold s8;rw[bq (v:=.int t.size) (ae:=ao++[.af (t.parts.map λt=>.int t.size)]) (bX rfl (AR k b) ?_)]
  ·simp[ph,pj,pk,pn,←d]
  ·simp only[pq,pw,j4,pz,pA,pB,pC,pD,pE,Dt t];rfl
def yL(e:P.fns 0=some sQ)(j:P.fns 2=some sR):∀(n:Nat)(t:Tm)(U:H),t.depth<=n->∃τ,av P sc (n+1) 2 [t.ag] U=.ok (.int t.depth) (U++τ)
|0=>λt U h=>absurd h (by have:=vD t;exact Nat.not_le.mpr (a7 v7 rfl this))
|n+1=>λt U h=>by
  rw[cI j rfl];show ∃τ,cp (a8 (cx P sc (n+1)) sR.body [some t.ag,none] U)=.ok (V.int t.depth) (U++τ);have m:(U++[O.af (t.parts.map Tm.ag)])[U.length]?=some (.af (t.parts.map Tm.ag)):=by simp
  obtain⟨τ,o⟩:=Ds (g:=λt=>.int t.depth) (f:=λq=>M.bind (aj (cx P sc (n+1)) (.call 2 {.aa 1}) (cq (dj [some t.ag,none] []) 1 q)) λy=>M.pure (some y)) (l:=U.length) (ts:=t.parts) (λp r s=>by
   obtain⟨τ,u⟩:=yL e j n p s (by have:=yG t p r;exact bD zq rfl h this);refine#[τ,?_];rw[aN (aT (by rfl) u)]
   rfl) t.parts [] _ rfl m
  have w:srcOf (.ref U.length) (U++[O.af (t.parts.map Tm.ag)])=.ok (.live U.length) (U++[O.af (t.parts.map Tm.ag)]):=by simp[pg,DG,M.bind,bO,cH,M.pure]
  have a:fh (.live U.length) (U++[O.af (t.parts.map Tm.ag)])=.ok t.parts.length (U++[O.af (t.parts.map Tm.ag)]):=by simp[C2,pa,M.bind,bO,cH,M.pure]
  have c:t.parts.length<=aJ:=bZ (rb t) ∅;have k:=mf (aT (aS (i:=0) (L:=[some t.ag,none]) rfl a6) (Dq e t n U)) w a c o;generalize d:U++[O.af (t.parts.map Tm.ag)]++τ=ao at k;have b:qh (.ref ao.length) (ao++[.af (t.parts.map λt=>.int t.depth)])=.ok (.int (se (t.parts.map λp=>(p.depth:Int)))) (ao++[.af (t.parts.map λt=>.int t.depth)]):=by
   simp[qh,M.bind,bO,cH,M.pure,qU,dD]
  refine#[[O.af (t.parts.map Tm.ag)]++τ++[.af (t.parts.map λt=>.int t.depth)],?_];unfold sR;rw[bq (v:=.int t.depth) (ae:=ao++[.af (t.parts.map λt=>.int t.depth)]) (bX rfl (GK k b) ?_)]
  ·simp[ph,pj,pk,pn,←d]
  ·simp only[pq,pw,j4,pz,pA,pB,pC,pD,pE,CW t];rfl
end
def Lm{x:Str}(h:k9 x):V.ca (.str x)=true:=by show x.cps.all (· < 0x110000)=true;rw[Array.all_eq_true];intro i a;have:=h.1 x.cps[i] (by simp);simp;exact a7 0x700740790184c049049205e8784c rfl this.2
def iE:∀(t:Tm),V.deep t.ag=t.depth
|.num i=>by simp[mU,mV,mW,mX,mY,mZ,m4,m5,m6,lY,lV,lW,lX,lT,lU,lx,ly,lz,lA,lB,lC,lD,lE,lF]
|.name x=>by simp[mU,mV,mW,mX,mY,mZ,m4,m5,m6,lY,lV,lW,lX,lT,lU,lx,ly,lz,lA,lB,lC,lD,lE,lF]
|.un w a=>by simp[mU,mV,mW,mX,mY,mZ,m4,m5,m6,lY,lV,lW,lX,lT,lU,lx,ly,lz,lA,lB,lC,lD,lE,lF,iE a];exact cm (a7 v3 rfl) (a7 zp rfl)
|.use f a=>by simp[mU,mV,mW,mX,mY,mZ,m4,m5,m6,lY,lV,lW,lX,lT,lU,lx,ly,lz,lA,lB,lC,lD,lE,lF,iE a];exact cm (a7 v3 rfl) (a7 zp rfl)
|.ak w a b=>by simp[mU,mV,mW,mX,mY,mZ,m4,m5,m6,lY,lV,lW,lX,lT,lU,lx,ly,lz,lA,lB,lC,lD,lE,lF,iE a,iE b];exact cm (aM v9 rfl) (aM wa rfl)
|.aY x a b=>by simp[mU,mV,mW,mX,mY,mZ,m4,m5,m6,lY,lV,lW,lX,lT,lU,lx,ly,lz,lA,lB,lC,lD,lE,lF,iE a,iE b];exact cm (aM v9 rfl) (aM wa rfl)
|.bg k x a b=>by simp[mU,mV,mW,mX,mY,mZ,m4,m5,m6,lY,lV,lW,lX,lT,lU,lx,ly,lz,lA,lB,lC,lD,lE,lF,iE a,iE b];exact cm (aM v9 rfl) (aM wa rfl)
|.def_ f x d a b=>by simp[mU,mV,mW,mX,mY,mZ,m4,m5,m6,lY,lV,lW,lX,lT,lU,lx,ly,lz,lA,lB,lC,lD,lE,lF,iE a,iE b];exact cm (aM v9 rfl) (aM wa rfl)
|.when a b c=>by simp[mU,mV,mW,mX,mY,mZ,m4,m5,m6,lY,lV,lW,lX,lT,lU,lx,ly,lz,lA,lB,lC,lD,lE,lF,iE a,iE b,iE c];exact cm (bD 0x10c338d3210610c338d308208208208208208208208049201241248049201241248049049201248049049049201240241248049201241248049201241248049049049201240241248049049201248 rfl) (bD 0x18430ce34c0430ce34c848208208208208208208208049201241248049201241248049049201248049049049201240241248049201241248049201241248049049049201240241248049049201248 rfl)
section
variable{P:Prog}{sc:List Int}
def add_lists{U:H}{i j:Nat}{a b:List V}(c:U[i]?=some (.af a))(d:U[j]?=some (.af b))(e:a.length+b.length<=aJ):binop .Add (.ref i) (.ref j) U=.ok (.ref U.length) (U++[.af (a++b)]):=by simp[pq,pw,j4,pz,pA,pB,pC,pD,pE,M.bind,bO,cH,c,d,M.pure,e,dB]
def old{U τ:H}{i:Nat}{o:O}(h:U[i]?=some o):(U++τ)[i]?=some o:=by rw[List.getElem?_append_left (List.getElem?_eq_some_iff.mp h).1];exact h
end
end Qh
set_option tactic.hygienic true
namespace Qh
open PySem
section
variable{C:Ctx}{L:aP}{U ae ao b9 nJ:H}{a b c:E}{x y z r:V}
def GN(d:aj C a L U=.ok x ae)(e:oF x ae=.ok r ao):aj C (.dict a) L U=.ok r ao:=by rw[Nb,aN d,e]
def j7(d:aj C c L U=.ok z ae)(e:aj C a L ae=.ok x ao)(f:aj C b L ao=.ok y b9)(g:iB x y z b9=.ok Unit.unit nJ):cT C (.eX a b c) L U=.ok .next L nJ:=by simp only[kT,Qh.N.bind,Qh.N.lift,d,e,f,g,Qh.N.pure]
def LS(d:aj C a L U=.ok x ae)(e:bO x ae=.ok vs ae)(f:aj C b L ae=.ok y ao)(g:tJ x y ao=.ok Unit.unit b9):cT C (.append a b) L U=.ok .next L b9:=by simp only[ml,Qh.N.bind,Qh.N.lift,d,e,f,g,Qh.N.pure]
def jE(d:aj C a L U=.ok x ae):cT C (.expr a) L U=.ok .next L ae:=by simp only[OL,Qh.N.bind,Qh.N.lift,d,Qh.N.pure]
def HL(d:aj C a L U=.ok x ae)(e:aj C b L ae=.ok y ao)(f:index C x y ao=.ok (.bool t) b9):bQ C (.aq a b) L U=.ok t b9:=by rw[vJ,aN (by rw[aN d,aN e,f])];rfl
def mn(h:U[i]?=some o):cH i U=.ok o U:=by simp only[cH,h]
def d8(h:U[i]?=some (.af vs)):bO (.ref i) U=.ok vs U:=by show M.bind (cH i) _ U=_;rw[aN (mn h)];rfl
def append_at(h:U[i]?=some (.af vs))(d:vs.length<=aJ):tJ (.ref i) y U=.ok Unit.unit (U.set i (.af (vs++[y]))):=by show M.bind (bO (.ref i)) _ U=_;rw[aN (d8 h),if_pos d];rfl
def mq(h:U[i]?=some (.af vs))(d:0<=k/\k<vs.length/\vs.length<=aJ):iB (.ref i) (.int k) y U=.ok Unit.unit (U.set i (.af (vs.set k.toNat y))):=by rw[CD,aN (d8 h),if_pos d];rfl
def F2(h:U[i]?=some (.az es))(d:es.length<=aJ):iB (.ref i) (.str k) y U=.ok Unit.unit (U.set i (.az (bp es k y))):=by rw[K7,aN (mn h)];show(if es.length<=aJ then jg i (.az (bp es k y)) else M.fail) U=_;rw[if_pos d];rfl
def F3(h:U[i]?=some (.az es))(d:es.length<=aJ):oF (.ref i) U=.ok (.ref U.length) (U++[.az es]):=by show M.bind (cH i) _ U=_;rw[aN (mn h)];show(if es.length<=aJ then dB (.az es) else M.fail) U=_;rw[if_pos d];rfl
def in_dict(h:U[i]?=some (.az es)):gR (.str k) (.ref i) U=.ok (dn es k).isSome U:=by rw[zJ,aN (mn h)];rfl
abbrev mem(x:Str)(l:List Str):Bool:=l.any (·==x)
def Du:∀l:List Str,strsOf (l.map .str)=some l
|[]=>rfl
|s::l=>by rw[List.map_cons,C1,Du l];rfl
def LU(l:List Str)(k:Str):among (.str k) (l.map .str) U=.ok (mem k l) U:=by unfold among;rw[Du];rfl
def in_list(h:U[i]?=some (.af (l.map .str))):gR (.str k) (.ref i) U=.ok (mem k l) U:=by rw[zJ,aN (mn h)];exact LU l k
def N9(h:gR x y U=.ok t ae):dh .NotIn x y U=.ok (!t) ae:=by rw[sU,aN h];rfl
def zQ:(U++[o]).set U.length o'=U++[o']:=by simp
def bA:(U++[o])[U.length]?=some o:=by rw[List.getElem?_append_right (aU _),Nat.sub_self];rfl
def RK(d:bQ C a L U=.ok t1 U)(f:bQ C b L U=.ok t2 U):bQ C (.and {a,b}) L U=.ok (t1&&t2) U:=by
 refine je (all_cons d (λe=>?_) (λe=>?_))
 ·rw[e,Bool.true_and];exact all_cons f (λe=>by rw[e];exact all_nil) (λe=>#[e,rfl])
 ·rw[e];exact#[rfl,rfl]
def zR(h:i<U.length):(U++τ).set i o=U.set i o++τ:=by rw[List.set_append,if_pos h]
def qo(h:U[i]?=some o)(d:j≠i):(U.set j o')[i]?=some o:=by rw[List.getElem?_set_ne d];exact h
def gy(h:U[i]?=some o):(U.set i o')[i]?=some o':=by simp[(List.getElem?_eq_some_iff.mp h).1]
def qp(h:U[i]?=some o):i<U.length:=(List.getElem?_eq_some_iff.mp h).1
end
section
def vT(a:aj C e L U=.ok (.int n) ae)(c:0<=n/\n<=1000000)(d:eK (λk=>M.pure ((d9 n)[k]?.map λv=>[(i,v)])) (a8 C b) (n.toNat+1) 0 L ae=.ok f L1 ao):cT C (.eV i e b) L U=.ok f L1 ao:=by simp only[kS,Qh.N.bind,Qh.N.lift,a,vA,M.pure];rw[if_pos c];exact d
def xc(h:U[l]?=some (.af vs))(a:vs.length<=aJ):lenOf C (.ref l) U=.ok (.int vs.length) U:=by rw[yS,aN (d8 h),if_pos a];rfl
end
abbrev Tm.pre:Tm->List Str->List (Str×Bool)
|.name x,b=>[(x,mem x b)]
|.use f a,b=>[(f,mem f b)]
|_,_=>[]
section
variable{P:Prog}{sc:List Int}
def fQ(c:P.fns 18=some o9)(hb:U[b]?=some (.az es))(a:es.length<=aJ):
  av P sc (n+1) 18 [.ref b,.str x,v] U=.ok (.ref U.length) (U++[.az (bp es x v)]):=by
 rw[cI c rfl];unfold o9;rw[bj (GN (aB rfl) (F3 hb a))];rw[dt (j7 (aB rfl) (aB rfl) (aB rfl) (F2 bA a)),zQ];rw[bq (aB rfl)]
 rfl
def gX(es:List (Str×V))(x:Str)(v:V):(bp es x v).length<=es.length+1:=by unfold bp;split<;>simp
end
end Qh
set_option tactic.hygienic false
set_option tactic.hygienic true
namespace Qh
open PySem
inductive Kd where|aD|ba
inductive Lv where|z|o
abbrev Kd.s:Kd->Str
|.aD=>"number"|.ba=>"piece"
abbrev Lv.i:Lv->Int
|.z=>0|.o=>1
inductive Mn where|val (k:Kd)|fn (a r:Kd)
abbrev Mn.ks:Mn->V
|.val k=>.ay [.str k.s]|.fn a r=>.ay [.str a.s,.str r.s]
abbrev Mn.mv(l:Lv):Mn->V
|.val k=>.ay [.int l.i,.str k.s]|.fn a r=>.ay [.int l.i,.str a.s,.str r.s]
structure Ent where
 x:Str
 l:Lv
 m:Mn
abbrev Ent.v(e:Ent):V:=.ay [.str e.x,.int e.l.i,e.m.ks]
@[reducible]def Sc:=List Ent
abbrev look(a:Sc)(x:Str):Option Ent:=a.reverse.find? λe=>e.x==x
def iD(a:Sc)(e:Ent)(x:Str):look (a++[e]) x=if e.x==x then some e else look a x:=by unfold look;rw[List.reverse_append,List.reverse_singleton,List.singleton_append,List.find?_cons];cases e.x==x<;>rfl
class inductive HK:Sc->Lv->Bool->Tm->Kd->Prop
|num {Γ l f i}:HK Γ l f (.num i) .aD
|name {Γ l f x k}:look Γ x=some #[x,l,.val k]->HK Γ l f (.name x) k
|when {Γ l f a b c k}:HK Γ l f a .aD->HK Γ l f b k->HK Γ l f c k->HK Γ l f (.when a b c) k
|use {Γ l f g a ka k}:look Γ g=some #[g,l,.fn ka k]->HK Γ l f a ka->HK Γ l f (.use g a) k
|aY {Γ l f x a b k k'}:HK Γ l f a k->HK (Γ++[#[x,l,.val k]]) l f b k'->HK Γ l f (.aY x a b) k'
|bg {Γ l f n x a b k}:(0<=n/\n<=9)->HK Γ l f a k->HK (Γ++[#[x,l,.val k]]) l f b k->HK Γ l f (.bg n x a b) k
|def_ {Γ l f g x a b ka k k'}:(l=.o->ka=.aD)->HK (Γ++[#[x,l,.val ka]]) l false a k->HK (Γ++[#[g,l,.fn ka k]]) l f b k'->HK Γ l f (.def_ g x ka.s a b) k'
|bK {Γ f a}:HK Γ .o false a .aD->HK Γ .z f (.un .bK a) .ba
|hole {Γ f a}:HK Γ .z false a .ba->HK Γ .o f (.un .hole a) .aD
|lift {Γ f a}:HK Γ .z f a .aD->HK Γ .z f (.un .lift a) .ba
|run {Γ a}:HK Γ .z true a .ba->HK Γ .z true (.un .run a) .aD
|ak {Γ l f w a b}:HK Γ l f a .aD->HK Γ l f b .aD->HK Γ l f (.ak w a b) .aD
section
variable(G:Nat->Sc->Lv->Bool->Tm->Kd->Prop)
abbrev RL:Prop:=∀{d a l f x k},look a x=some #[x,l,.val k]->G d a l f (.name x) k
abbrev Qb:Prop:=∀{d a f x},look a x=some #[x,.z,.val .ba]->G d a .o f (.un .hole (.name x)) .aD
abbrev Oa:Prop:=∀{d a f x},look a x=some #[x,.o,.val .aD]->G d a .z f (.un .bK (.name x)) .ba
abbrev RM:Prop:=∀{d e l f a b c k},G d e l f a .aD->G d e l f b k->G d e l f c k->G (d+1) e l f (.when a b c) k
abbrev TF:Prop:=∀{d b l f g a ka k},look b g=some #[g,l,.fn ka k]->G d b l f a ka->G (d+1) b l f (.use g a) k
abbrev RO:Prop:=∀{d c l f x a b k k'},G d c l f a k->G d (c++[#[x,l,.val k]]) l f b k'->G (d+1) c l f (.aY x a b) k'
abbrev Qc:Prop:=∀{d c l f n x a b k},(0<=n/\n<=9)->G d c l f a k->G d (c++[#[x,l,.val k]]) l f b k->G (d+1) c l f (.bg n x a b) k
abbrev RP:Prop:=∀{d c l f g x a b ka k k'},(l=.o->ka=.aD/\k=.aD)->G d (c++[#[x,l,.val ka]]) l false a k->G d (c++[#[g,l,.fn ka k]]) l f b k'->G (d+1) c l f (.def_ g x ka.s a b) k'
abbrev Qd:Prop:=∀{d b f a},G d b .o false a .aD->G (d+1) b .z f (.un .bK a) .ba
abbrev RQ:Prop:=∀{d b f a},G d b .z false a .ba->G (d+1) b .o f (.un .hole a) .aD
abbrev RR:Prop:=∀{d b f a},G d b .z f a .aD->G (d+1) b .z f (.un .lift a) .ba
abbrev TG:Prop:=∀{d b a},G d b .z true a .ba->G (d+1) b .z true (.un .run a) .aD
abbrev TH:Prop:=∀{d c l f w a b},G d c l f a .aD->G d c l f b .aD->G (d+1) c l f (.ak w a b) .aD
abbrev RS:Prop:=∀{d c f x g a b},G (d-1) c .o false a .aD->G (d-1) (c++[#[x,.o,.val .aD]]++[#[g,.z,.val .ba]]) .o false b .aD->G (d+1) c .o f (.aY x a (.un .hole (.aY g (.un .bK (.name x)) (.un .bK b)))) .aD
abbrev Qf:Prop:=∀{d e f x g a y i b c},G (d-1) e .o false a .aD->G 0 (e++[#[x,.o,.val .aD]]++[#[g,.z,.val .ba]]++[#[y,.o,.val .aD]]) .o false b .aD->G (d-2) (e++[#[x,.o,.val .aD]]++[#[g,.z,.val .ba]]++[#[y,.o,.val .aD]]) .o false c .aD->G (d+1) e .o f (.aY x a (.un .hole (.aY g (.un .bK (.name x)) (.un .bK (.aY y (.num i) (.ak .sum b c)))))) .aD
end
structure Gr(G:Nat->Sc->Lv->Bool->Tm->Kd->Prop):Prop where
 num:∀{d Γ l f i},G d Γ l f (.num i) .aD
 name:RL G
 kB:Qb G
 la:Oa G
 lb:∀{d Γ f i},G d Γ .z f (.un .bK (.num i)) .ba
 lp:∀{d Γ f i},G d Γ .z f (.un .lift (.num i)) .ba
 when:RM G
 use:TF G
 aY:RO G
 bg:Qc G
 def_:RP G
 bK:Qd G
 hole:RQ G
 lift:RR G
 run:TG G
 ak:TH G
 kept:RS G
 twice:Qf G
section
variable{P:Prog}{sc:List Int}
structure Kinds(P:Prog):Prop where
 fy:P.fns 18=some o9
 JC:P.fns 43=some CI
 JD:P.fns 44=some yv
 JE:P.fns 45=some CU
 JF:P.fns 46=some yY
 yg:P.fns 47=some CC
 sF:P.fns 48=some CJ
 JG:P.fns 49=some DX
 c0:P.consts 0=some (.str "number")
 c1:P.consts 1=some (.str "piece")
variable(B:Kinds P)
include B
abbrev oP(es:List (Str×V))(a:Sc):Prop:=∀x,dn es x=(look a x).map λe=>e.m.mv e.l
omit B in
def n9(es:List (Str×V))(x y:Str)(v:V):dn (bp es x v) y=if x==y then some v else dn es y:=by
 unfold bp dn
 split
 ·rename_i hx
  induction es with
  |nil=>exact ff hx
  |cons e es ih=>
   rw[List.map_cons,List.find?_cons,List.find?_cons]
   by_cases h1:e.1=x
   ·clear hx;subst h1;refine(if_pos rfl)▸?_
    by_cases h2:e.1=y
    ·simp[h2]
    ·simp only[h2,decide_false,beq_eq_false_iff_ne.mpr h2,Bool.false_eq_true,if_false]
     by_cases h3:es.any (λe'=>decide (e'.1=e.1))=true
     ·have:=ih h3
      simpa[h2] using this
     ·have:es.map (λe'=>if e'.1=e.1 then(e'.1,v) else e')=es:=by
       rw[List.map_congr_left (g:=id)]
       ·simp
       ·intro a ha;have:¬ a.1=e.1:=λq=>h3 (List.any_eq_true.mpr #[a,ha,decide_eq_true q]);simp[this]
      refine this.symm▸?_;with_reducible rfl
   ·have hx':es.any (λe'=>decide (e'.1=x))=true:=by simpa[h1] using hx
    refine(if_neg h1)▸?_
    by_cases h2:e.1=y
    ·have h3:¬ x=y:=λq=>h1 (h2.trans q.symm);simp[h2,h3]
    ·simp only[h2,decide_false,Bool.false_eq_true];exact ih hx'
 ·rename_i hx
  rw[List.find?_append];have hn:∀e∈es,¬ e.1=x:=λe he q=>hx (List.any_eq_true.mpr #[e,he,decide_eq_true q])
  by_cases h:x=y
  ·clear hx;subst h;have:es.find? (λe=>decide (e.1=x))=none:=List.find?_eq_none.mpr λe he=>by simp[hn e he]
   simp[this]
  ·simp[h]
omit B in
def oP.add{es:List (Str×V)}{a:Sc}(h:oP es a)(e:Ent):oP (bp es e.x (e.m.mv e.l)) (a++[e]):=λy=>by
 rw[n9,iD]
 split
 ·rfl
 ·exact h y
end
end Qh
set_option tactic.hygienic false
namespace Qh
open PySem
section
variable{P:Prog}{sc:List Int}(B:Kinds P)
include B
def e_num{n:Nat}{L:aP}{U:H}:aj (cx P sc n) (.glob 0) L U=.ok (.str Kd.aD.s) U:=by rw[rE];show dD (P.consts 0) U=_;rw[B.c0];rfl
def tO{n:Nat}{L:aP}{U:H}:aj (cx P sc n) (.glob 1) L U=.ok (.str Kd.ba.s) U:=by rw[rE];show dD (P.consts 1) U=_;rw[B.c1];rfl
omit B in
def jF{C:Ctx}{U:H}{d:Nat}{es:List (Str×V)}{x:Str}{v:V}(h:U[d]?=some (.az es))(a:dn es x=some v):index C (.ref d) (.str x) U=.ok v U:=by rw[vz,aN (mn h)];show dD (dn es x) U=_;rw[a];rfl
omit B in
def ne_str{C:Ctx}{L:aP}{U ae:H}{a b:E}{k:Str}(c:aj C a L U=.ok (.str k) ae)(d:aj C b L ae=.ok (.str k) ae):bQ C (.cmp .NotEq a b) L U=.ok false ae:=by
 refine cZ c d ?_;rw[pf,aN (a:=true)]
 ·rfl
 ·rw[Ng];show Res.ok (k==k) ae=_;rw[beq_self_eq_true]
omit B in
def ne_int{C:Ctx}{L:aP}{U ae ao:H}{a b:E}{k:Int}(c:aj C a L U=.ok (.int k) ae)(d:aj C b L ae=.ok (.int k) ao):bQ C (.cmp .NotEq a b) L U=.ok false ao:=by
 refine cZ c d ?_;rw[pf,aN (a:=true)]
 ·rfl
 ·rw[EC];show Res.ok (k==k) ao=_;rw[beq_self_eq_true]
def CM{n d:Nat}{es:List (Str×V)}{c:Sc}{x:Str}{l:Lv}{m:Mn}{U:H}(e:U[d]?=some (.az es))(g:oP es c)(f:look c x=some #[x,l,m]):
  av P sc (n+1) 43 [.str x,.int l.i,.ref d] U=.ok (m.mv l) U:=by
 have a:dn es x=some (m.mv l):=by rw[g,f];rfl
 rw[cI B.JC rfl];have b:∀C:Ctx,aj C (.aq (.aa 2) (.aa 0)) [some (.str x),some (.int l.i),some (.ref d)] U=.ok (m.mv l) U:=λC=>cC (aB rfl) (aB rfl) (jF e a);refine(congrArg cp ((cj (cZ (aB rfl) (aB rfl) ((N9 (in_dict e)).trans (by rw[a];rfl)))).trans ((cj (ne_int (cC (b _) rfl ?_) (aB rfl))).trans (bq (b _))))).trans rfl;(clear b a f;cases m)<;>rfl
abbrev B0(P:Prog)(sc:List Int)(n:Nat)(a:Sc)(l:Lv)(f:Bool)(t:Tm)(k:Kd):Prop:=∀(d:Nat)(es:List (Str×V))(U:H),U[d]?=some (.az es)->oP es a->es.length+t.depth<=aJ->
 ∃τ,av P sc n 46 [t.ag,.int l.i,.ref d,.bool f] U=.ok (.str k.s) (U++τ)
def kN{n d:Nat}{a:Sc}{l:Lv}{f:Bool}{t:Tm}{k:Kd}(h:B0 P sc n a l f t k){es:List (Str×V)}{U:H}(b:U[d]?=some (.az es))(c:oP es a)(g:es.length+t.depth<=aJ):
  ∃τ,av P sc (n+1) 45 [.str k.s,t.ag,.int l.i,.ref d,.bool f] U=.ok .none (U++τ):=by refine cb (h d es U b c g) λτ e=>#[τ,?_];rw[cI B.JE rfl];exact(congrArg cp ((cj (ne_str (aT rfl e) (aB rfl))).trans eU)).trans rfl
abbrev IT:SL:=match yY.body with
|.cons _ (.cons _ r)=>r
|_=>.nil
def rK{n d:Nat}{t:Tm}{w:Str}{l:Lv}{f:Bool}{U:H}(b:∀C L,aj C (.aq (.aa 0) (.int 0)) (some t.ag::L) U=.ok (.str w) U)(c:av P sc n 44 [.str w,.int l.i,.bool f] U=.ok .none U){L':aP}{v:V}{a:H}(h:a8 (cx P sc n) IT [some t.ag,some (.int l.i),some (.ref d),some (.bool f),some (.str w),none,none] U=.ok (.ret v) L' a):av P sc (n+1) 46 [t.ag,.int l.i,.ref d,.bool f] U=.ok v a:=by rw[cI B.JF rfl];exact(congrArg cp ((bj (b _ _)).trans ((dt (jE (aT rfl c))).trans h))).trans rfl
def zS{n d:Nat}{a:Sc}{l b:Lv}{f:Bool}{t:Tm}{k:Kd}{m:Mn}{x:Str}(h:B0 P sc (n+1) (a++[#[x,l,m]]) b f t k){es:List (Str×V)}{U:H}(e:U[d]?=some (.az es))(g:oP es a)(c:es.length+1+t.depth<=aJ):
  av P sc (n+1) 18 [.ref d,.str x,m.mv l] U=.ok (.ref U.length) (U++[.az (bp es x (m.mv l))])/\∃τ,av P sc (n+1) 46 [t.ag,.int b.i,.ref U.length,.bool f] (U++[.az (bp es x (m.mv l))])=.ok (.str k.s) (U++[.az (bp es x (m.mv l))]++τ):=by refine#[fQ B.fy e (bD 0x34c04904920534138184c rfl c),h _ _ _ bA (g.add #[x,l,m]) ?_];have:=gX es x (m.mv l);exact ej 0xe04d30124124124814e04d0613c50613cc rfl c this
end
section
variable{P:Prog}{sc:List Int}(B:Kinds P)
include B
omit B in
def jS(m:Nat)(h:m+3<=n):∃k,n=k+3/\m<=k:=#[n-3,~~~cm (a7 iX rfl) (aM 0x3018c28cc2012480490090492053018cd rfl h),by(exact Nat.le_sub_of_add_le ())]
def jY{n:Nat}{w:Str}{l:Lv}(h:cp (a8 (cx P sc n) yv.body [some (.str w),some (.int l.i),some (.bool f)] U)=.ok .none U):av P sc (n+1) 44 [.str w,.int l.i,.bool f] U=.ok .none U:=by rw[cI B.JD rfl];exact h
def zj{n d:Nat}{t:Tm}{w:Str}{l:Lv}(a:∀C L,aj C (.aq (.aa 0) (.int 0)) (some t.ag::L) U=.ok (.str w) U)(b:av P sc n 44 [.str w,.int l.i,.bool f] U=.ok .none U)(c:w="let"∨w="turns"∨w="def")(h:av P sc n 47 [t.ag,.int l.i,.ref d,.bool f] U=.ok v ah):av P sc (n+1) 46 [t.ag,.int l.i,.ref d,.bool f] U=.ok v ah:=by
 refine rK B a b (L':=[some t.ag,some (.int l.i),some (.ref d),some (.bool f),some (.str w),none,none]) ?_;have e:a8 (cx P sc n) {.ret (.call 47 {.aa 0,.aa 1,.aa 2,.aa 3})} [some t.ag,some (.int l.i),some (.ref d),some (.bool f),some (.str w),none,none] U=.ok (.ret v) [some t.ag,some (.int l.i),some (.ref d),some (.bool f),some (.str w),none,none] ah:=
  bq (aT rfl h)
 rcases c with rfl|rfl|rfl<;>
  exact jmp 4 ⋯ (cu ⋯ e)
def s9{n d:Nat}{t:Tm}{w:Str}{l:Lv}(a:∀C L,aj C (.aq (.aa 0) (.int 0)) (some t.ag::L) U=.ok (.str w) U)(b:av P sc n 44 [.str w,.int l.i,.bool f] U=.ok .none U)(e:(∃u:U1,w=u.str)∨(∃u:U2,w=u.str))(h:av P sc n 48 [t.ag,.int l.i,.ref d,.bool f] U=.ok v ah):av P sc (n+1) 46 [t.ag,.int l.i,.ref d,.bool f] U=.ok v ah:=by
 refine rK B a b (L':=[some t.ag,some (.int l.i),some (.ref d),some (.bool f),some (.str w),none,none]) ?_;have c:a8 (cx P sc n) {.ret (.call 48 {.aa 0,.aa 1,.aa 2,.aa 3})} [some t.ag,some (.int l.i),some (.ref d),some (.bool f),some (.str w),none,none] U=.ok (.ret v) [some t.ag,some (.int l.i),some (.ref d),some (.bool f),some (.str w),none,none] ah:=
  bq (aT rfl h)
 have g:a8 (cx P sc n) IT [some t.ag,some (.int l.i),some (.ref d),some (.bool f),some (.str w),none,none] U=a8 (cx P sc n) {.ret (.call 48 {.aa 0,.aa 1,.aa 2,.aa 3})} [some t.ag,some (.int l.i),some (.ref d),some (.bool f),some (.str w),none,none] U:=by
  rcases e with ⟨u,rfl⟩|⟨u,rfl⟩<;>(clear c b a;cases u)<;>
   exact jmp 4 ⋯ (cj ⋯)
 exact g.trans c
def MI{J:Sc}{l:Lv}{f:Bool}(h:HK J l f t k):∀n,3*t.depth+3<=n->B0 P sc n J l f t k:=by
 induction h with
|@num J l f i=>
  intro n e d C U p q K;refine aQ (jS _ e) λm F _=>?_;clear e;subst F;refine#[[],?_];rw[List.append_nil];exact rK B (λ_ _=>rfl) (jY B (by cases l<;>cases f<;>rfl')) (cu ⋯ (bq (e_num B)))
|@name J l f x k T=>
  intro n e d C U p q K;refine aQ (jS _ e) λm F _=>?_;clear e;subst F;refine#[[],?_];rw[List.append_nil];exact rK B (λ_ _=>rfl) (jY B (by(clear T;cases l)<;>cases f<;>rfl')) (jmp 1 ⋯ (cu ⋯ ((bj (aT rfl (CM B p q T))).trans ((cj (ne_int rfl rfl)).trans (bq rfl)))))
|@when J l f a b c k D hb hc r G Z=>
  intro n e d C U p q K;have L:(Tm.when a b c).depth=1+max a.depth (max b.depth c.depth):=rfl;refine aQ (jS _ e) λm F y=>?_;clear e;subst F;obtain⟨A,u⟩:=kN B (r (m+1) (nK mL ())) p q (zz mL ());refine cb (G (m+2) (VY mM ()) d C (U++A) (old p) q (zz mM ())) λQ I=>?_;obtain⟨fB,e3⟩:=kN B (Z (m+1) (nK mC ())) (old (old p)) q (zz mC ());refine#[A++(Q++fB),?_];rw[←List.append_assoc,←List.append_assoc]
  exact rK B (λ_ _=>rfl) (jY B (by(clear e3 I u Z G r hc hb D;cases l)<;>cases f<;>rfl')) ((cj ⋯).trans ((cj ⋯).trans (cu ⋯ ((dt (jE (aT (ax (e_num B) rfl) u))).trans
   ((bj (aT rfl I)).trans
   ((dt (jE (aT rfl e3))).trans (bq (aB rfl))))))))
|@use J l f g a ka k T D r=>
  intro n e d C U p q K;have L:(Tm.use g a).depth=1+a.depth:=rfl;refine aQ (jS _ e) λm F y=>?_;clear e;subst F;obtain⟨A,u⟩:=kN B (r (m+1) (nK (aU _) ())) p q (zz (aU _) ());refine#[A,?_]
  exact rK B (λ_ _=>rfl) (jY B (by(clear u r D T;cases l)<;>cases f<;>rfl')) ((cj ⋯).trans ((cj ⋯).trans ((cj ⋯).trans (cu ⋯ ((bj (aT rfl (CM B p q T))).trans ((cj (ne_int rfl rfl)).trans
   ((dt (jE (aT (ax rfl rfl) u))).trans (bq rfl))))))))
|@aY J l f x a b k k' D hb r G=>
  intro n e d C U p q K;have L:(Tm.aY x a b).depth=1+max a.depth b.depth:=rfl;have zz:=jS _ e;clear e;obtain⟨m,rfl,y⟩:=zz;obtain⟨A,u⟩:=r (m+1) (nK mL ()) d C U p q (zz mL ());obtain⟨R,Q,I⟩:=zS B (G (m+1) (nK mR ())) (old p) q (z1 mR ());refine#[A++([.az (bp C x ((Mn.val k).mv l))]++Q),zj B (λ_ _=>rfl) (jY B (by(clear I R u G r hb D;cases l)<;>cases f<;>rfl')) (.inl rfl) ?_];rw[←List.append_assoc,←List.append_assoc,cI B.yg rfl]
  exact(congrArg cp (cu ⋯ ((bj (aT rfl u)).trans
   (bq (aT (ax rfl (aS rfl (ax (aT (aS rfl (ax rfl (ax (cf rfl ∅) a6))) R) rfl))) I))))).trans rfl
|@bg J l f j x a b k hj D hb r G=>
  intro n e d C U p q K;have L:(Tm.bg j x a b).depth=1+max a.depth b.depth:=rfl;refine aQ (jS _ e) λm F y=>?_;clear e;subst F;obtain⟨A,u⟩:=r (m+1) (nK mL ()) d C U p q (zz mL ());have X:=gX C x ((Mn.val k).mv l);have R:=fQ (sc:=sc) B.fy (n:=m) (x:=x) (v:=(Mn.val k).mv l) (old (τ:=A) p) (iQ ());obtain⟨Q,I⟩:=kN B (G m (k3 mR ())) (bA) (show oP (bp C x ((Mn.val k).mv l)) _ from q.add #[x,l,.val k]) (lL tA rfl K L X);refine#[A++([.az (bp C x ((Mn.val k).mv l))]++Q),zj B (λ_ _=>rfl) (jY B (by(clear I R X u G r hb D;cases l)<;>cases f<;>rfl')) (.inr (.inl rfl)) ?_];rw[←List.append_assoc,←List.append_assoc,cI B.yg rfl]
  exact(congrArg cp ((cj ⋯).trans (cu ⋯ ((bj (aT rfl u)).trans
   ((dt (jE (aT (aS rfl (ax rfl (aS rfl (ax (aT (aS rfl (ax rfl (ax (cf rfl ∅) a6))) R) rfl)))) I))).trans (bq (aB rfl))))))).trans rfl
|@def_ J l f g x a b ka k k' hk D hb r G=>
  intro n e d C U p q K;have L:(Tm.def_ g x ka.s a b).depth=1+max a.depth b.depth:=rfl;refine aQ (jS _ e) λm F y=>?_;clear e;subst F;obtain⟨R,A,u⟩:=zS B (r (m+1) (nK mL ())) p q (z1 mL ());obtain⟨Y,Q,I⟩:=zS B (G (m+1) (nK mR ())) (old (old p)) q (z1 mR ());refine#[[.az (bp C x ((Mn.val ka).mv l))]++(A++([.az (bp C g ((Mn.fn ka k).mv l))]++Q)),zj B (λ_ _=>rfl) (jY B (by(clear I Y u R G r hb D hk;cases l)<;>cases f<;>rfl')) (.inr (.inr rfl)) ?_];rw[←List.append_assoc,←List.append_assoc,←List.append_assoc,cI B.yg rfl];have hp:bQ (cx P sc (m+1)) (.and {.cmp .Eq (.aa 1) (.int 1),.cmp .Eq (.aq (.aa 0) (.int 3)) (.glob 1)}) [some (Tm.def_ g x ka.s a b).ag,some (.int l.i),some (.ref d),some (.bool f),none] U=.ok false U:=by
   clear I Y u R G r hb D;cases l with
   |z=>exact je (all_cons ⋯ (~~~ff) (λ_=>#[rfl,rfl]))
   |o=>
    obtain rfl:=hk rfl;exact RK (t1:=true) (t2:=false) ⋯ (cZ (x:=.str Kd.aD.s) rfl (tO B) ⋯)
  exact(congrArg cp ((cj ⋯).trans ((cj ⋯).trans ((cj hp).trans ((bj (aT (ax rfl (aS rfl (ax (aT (aS rfl (ax rfl (ax (cf rfl ∅) a6))) R) rfl))) u)).trans
   (bq (aT (ax rfl (aS rfl (ax (aT (aS rfl (ax rfl (ax (cf rfl ∅) a6))) Y) rfl))) I))))))).trans rfl
|@bK J f a D r=>
  intro n e d C U p q K;have L:(Tm.un .bK a).depth=1+a.depth:=rfl;have zz:=jS _ e;clear e;obtain⟨m,rfl,y⟩:=zz;obtain⟨A,u⟩:=kN B (r m (k3 (aU _) ())) p q (zz (aU _) ());refine#[A,s9 B (λ_ _=>rfl) (jY B (by cases f<;>rfl')) (.inl #[.bK,rfl]) ?_];rw[cI B.sF rfl];exact(congrArg cp ((bj rfl).trans (cu ⋯ ((dt (jE (aT (ax (e_num B) rfl) u))).trans (bq (tO B)))))).trans rfl
|@hole J f a D r=>
  intro n e d C U p q K;have L:(Tm.un .hole a).depth=1+a.depth:=rfl;have zz:=jS _ e;clear e;obtain⟨m,rfl,y⟩:=zz;obtain⟨A,u⟩:=kN B (r m (k3 (aU _) ())) p q (zz (aU _) ());refine#[A,s9 B (λ_ _=>rfl) (jY B (by cases f<;>rfl')) (.inl #[.hole,rfl]) ?_];rw[cI B.sF rfl];exact(congrArg cp ((bj rfl).trans (jmp 1 ⋯ (cu ⋯ ((dt (jE (aT (ax (tO B) rfl) u))).trans (bq (e_num B))))))).trans rfl
|@lift J f a D r=>
  intro n e d C U p q K;have L:(Tm.un .lift a).depth=1+a.depth:=rfl;have zz:=jS _ e;clear e;obtain⟨m,rfl,y⟩:=zz;obtain⟨A,u⟩:=kN B (r m (k3 (aU _) ())) p q (zz (aU _) ());refine#[A,s9 B (λ_ _=>rfl) (jY B (by(clear u r D;cases f)<;>rfl')) (.inl #[.lift,rfl]) ?_];rw[cI B.sF rfl];exact(congrArg cp ((bj rfl).trans (jmp 2 ⋯ (cu ⋯ ((dt (jE (aT (ax (e_num B) rfl) u))).trans (bq (tO B))))))).trans rfl
|@run J a D r=>
  intro n e d C U p q K;have L:(Tm.un .run a).depth=1+a.depth:=rfl;refine aQ (jS _ e) λm F y=>?_;clear e;subst F;obtain⟨A,u⟩:=kN B (r m (k3 (aU _) ())) p q (zz (aU _) ());refine#[A,s9 B (λ_ _=>rfl) (jY B ⋯) (.inl #[.run,rfl]) ?_];rw[cI B.sF rfl];exact(congrArg cp ((bj rfl).trans (jmp 3 ⋯ (cu ⋯ ((dt (jE (aT (ax (tO B) rfl) u))).trans (bq (e_num B))))))).trans rfl
|@ak J l f w a b D hb r G=>
  intro n e d C U p q K;have L:(Tm.ak w a b).depth=1+max a.depth b.depth:=rfl;refine aQ (jS _ e) λm F y=>?_;clear e;subst F;obtain⟨A,u⟩:=kN B (r m (k3 mL ())) p q (zz mL ());refine cb (kN B (G m (k3 mR ())) (old (τ:=A) p) q (zz mR ())) λQ I=>?_;refine#[A++Q,s9 B (λ_ _=>rfl) (jY B (by(clear I u G r hb D;cases l)<;>cases f<;>(clear y L K;cases w)<;>rfl')) (.inr #[w,rfl]) ?_];rw[←List.append_assoc,cI B.sF rfl]
  refine(congrArg cp ((bj (v:=.str w.str) rfl).trans ((cj (ae:=U) ?_).trans ((cj (ae:=U) ?_).trans ((cj (ae:=U) ?_).trans ((cj (ae:=U) ?_).trans ((dt (jE (aT (ax (e_num B) (by rfl)) u))).trans
   ((dt (jE (aT (ax (e_num B) rfl) I))).trans (bq (e_num B)))))))))).trans rfl<;>(clear y L K;cases w)<;>rfl'
end
end Qh
set_option tactic.hygienic true
namespace Qh
open PySem
abbrev gM(l:Nat)(vs:List V)(U a:H):Prop:=∃τ,a=U.set l (.af vs)++τ
section
variable{l:Nat}{fs fs':List V}{U ae ao:H}
def GO{U:H}{l:Nat}{o:O}(h:U[l]?=some o):U.set l o=U:=by obtain⟨a,rfl⟩:=List.getElem?_eq_some_iff.mp h;exact List.set_getElem_self a
def gM.trans(h:l<U.length)(x:gM l fs U ae)(y:gM l fs' ae ao):gM l fs' U ao:=by obtain⟨a,rfl⟩:=x;obtain⟨b,rfl⟩:=y;exact#[a++b,by rw[zR (by(refine(List.length_set).symm▸?_);exact h),List.set_set,List.append_assoc]]
def gM.back{τ:H}(h:l<U.length)(x:gM l fs (U++τ) ae):gM l fs U ae:=by obtain⟨a,rfl⟩:=x;exact#[τ++a,by rw[zR h,List.append_assoc]]
def gM.other{b:Nat}{o:O}(x:gM l fs U ae)(hb:U[b]?=some o)(a:l≠b):ae[b]?=some o:=by obtain⟨c,rfl⟩:=x;exact old (qo hb a)
def gM.self(h:l<U.length)(x:gM l fs U ae):ae[l]?=some (.af fs):=by obtain⟨a,rfl⟩:=x;exact old (by simp[h])
def gM.refl{τ:H}(h:U[l]?=some (.af fs)):gM l fs U (U++τ):=#[τ,by(refine(GO h).symm▸?_;with_reducible rfl)]
end
abbrev jP(l:Lv)(ks:List Mn)(a:Sc)(e:Ent):Bool:=!(a.any λb=>b.x==e.x)&&(e.l.i==l.i)&&ks.any λm=>gu m.ks e.m.ks
abbrev f9(l:Lv)(ks:List Mn):Sc->Sc
|[]=>[]
|e::a=>if jP l ks a e then e::f9 l ks a else f9 l ks a
def D0(e:Ent)(a:Sc)(x:Str):look (e::a) x=(look a x).or (if e.x==x then some e else none):=by unfold look;rw[List.reverse_cons,List.find?_append,List.find?_singleton]
def MJ{a:Sc}{x:Str}(h:(a.any λe=>e.x==x)=false):look a x=none:=by unfold look;rw[List.find?_eq_none];intro e b;rw[List.mem_reverse] at b;have:=List.any_eq_false.mp h e b;exact this
def RT{a b:Lv}(h:(a.i==b.i)=true):a=b:=by cases a<;>cases b<;>first|rfl|exact ff h
def kO(l:Lv)(ks:List Mn):∀(Γ:Sc)(e:Ent),e∈f9 l ks Γ->look Γ e.x=some e/\e.l=l/\e∈Γ/\(ks.any λm=>gu m.ks e.m.ks)=true
|[]=>λe h=>by cases h
|e'::Γ=>λe h=>by
  unfold f9 at h;have tail:e∈f9 l ks Γ->look (e'::Γ) e.x=some e/\e.l=l/\e∈e'::Γ/\(ks.any λm=>gu m.ks e.m.ks)=true:=λh=>by
   exact jL (kO l ks Γ e h) λh1 h2 h3 h4=>#[by rw[D0,h1];rfl,h2,List.mem_cons_of_mem _ h3,h4]
  split at h
  ·rename_i hs
   rcases List.mem_cons.mp h with rfl|q
   ·unfold jP at hs;rw[Bool.and_eq_true,Bool.and_eq_true,Bool.not_eq_true'] at hs;refine#[?_,RT hs.1.2,List.mem_cons_self,hs.2];rw[D0,MJ hs.1.1,beq_self_eq_true];rfl
   ·exact tail q
  ·exact tail h
def xd{k:Kd}{m:Mn}(h:([Mn.val k].any λm'=>gu m'.ks m.ks)=true):m=.val k:=by
 have h:(gu (Mn.val k).ks m.ks||false)=true:=h;rw[Bool.or_false] at h
 revert h
 cases m with
|val k'=>cases k<;>cases k'<;>first|exact λ_=>rfl|(intro h;exact absurd h (by decide+kernel))
|fn a r=>cases k<;>cases a<;>cases r<;>(intro h;exact absurd h (by decide+kernel))
def TJ{k:Kd}{m:Mn}(h:([Mn.fn .aD k,Mn.fn .ba k].any λm'=>gu m'.ks m.ks)=true):∃a,m=.fn a k:=by
 revert h
 cases m with
|val k'=>cases k<;>cases k'<;>(intro h;exact absurd h (by decide+kernel))
|fn a r=>cases k<;>cases r<;>first|exact λ_=>#[a,rfl]|(cases a<;>(intro h;exact absurd h (by decide+kernel)))
abbrev Ent.Ok(e:Ent):Prop:=V.ca (.str e.x)=true/\(e.l=.o->e.m=.val .aD∨e.m=.fn .aD .aD)
def zT(m:Mn):V.ca m.ks=true:=by
 cases m with
|val k=>cases k<;>decide+kernel
|fn a r=>cases a<;>cases r<;>decide+kernel
def zU(m:Mn):V.deep m.ks=1:=by
 cases m with
|val k=>cases k<;>rfl
|fn a r=>cases a<;>cases r<;>rfl
def Ob{e:Ent}(h:e.Ok):V.ca e.v=true:=by show(V.ca (.str e.x)&&(V.ca (.int e.l.i)&&(V.ca e.m.ks&&true)))=true;rw[h.1,zT];rfl
def Oc(e:Ent):V.deep e.v=2:=by show max 0 (max 0 (max (V.deep e.m.ks) 0))+1=2;rw[zU];rfl
def D2:∀(a:Sc),(∀e∈a,e.Ok)->V.eB (a.map Ent.v)=true
|[]=>λ_=>rfl
|e::a=>λh=>by
  show(V.ca e.v&&V.eB (a.map Ent.v))=true
  (refine(Ob (h e List.mem_cons_self)).symm▸?_;refine(D2 a λx b=>h x (List.mem_cons_of_mem _ b)).symm▸?_);rfl
def D3:∀(a:Sc),V.fj (a.map Ent.v)<=2
|[]=>gp _
|e::a=>by
  show max (V.deep e.v) (V.fj (a.map Ent.v))<=2;rw[Oc];have:=D3 a;exact a7 0x88332220124804900904920588c rfl this
def EZ:∀(ks:List Mn),V.eB (ks.map Mn.ks)=true
|[]=>rfl
|m::ks=>by
  show(V.ca m.ks&&V.eB (ks.map Mn.ks))=true;rw[zT,EZ ks];rfl
def E0:∀(ks:List Mn),V.fj (ks.map Mn.ks)<=1
|[]=>gp _
|m::ks=>by
  show max (V.deep m.ks) (V.fj (ks.map Mn.ks))<=1;rw[zU];have:=E0 ks;exact a7 0x84332120124804900904920584c rfl this
def eq_nil{U:H}{i j:Nat}{a:Sc}(b:∀e∈a,e.Ok)(c:U[i]?=some (.af (a.map Ent.v)))(d:U[j]?=some (.af [])):iM (.ref i) (.ref j) U=.ok a.isEmpty U:=by
 rw[Nh,aN (d8 c),aN (d8 d),if_pos]
 ·clear c b;cases a with
  |nil=>rfl
  |cons e a=>rfl
 ·unfold fR;have:=D3 a;rw[D2 a b,decide_eq_true (show V.fj (a.map Ent.v)<=50 by(exact bZ () ∅))];rfl
def Od{U:H}{i:Nat}{ks:List Mn}{m:Mn}(a:U[i]?=some (.af (ks.map Mn.ks))):gR m.ks (.ref i) U=.ok (ks.any λm'=>gu m'.ks m.ks) U:=by
 refine zJ▸(aN (mn a))▸?_;have b:fR [m.ks] (ks.map Mn.ks)=true:=by
  have e:=E0 ks;have c:V.fj [m.ks]<=50:=by show max (V.deep m.ks) 0<=50;rw[zU];decide
  have d:V.eB [m.ks]=true:=by show(V.ca m.ks&&true)=true;rw[zT];rfl
  unfold fR;rw[d,EZ ks,decide_eq_true c,decide_eq_true (show V.fj (ks.map Mn.ks)<=50 by(exact bZ () ∅))];rfl
 show among m.ks (ks.map Mn.ks) U=_;have:among m.ks (ks.map Mn.ks)=if fR [m.ks] (ks.map Mn.ks) then M.pure ((ks.map Mn.ks).any λy=>gu y m.ks) else M.fail:=by cases m<;>rfl
 refine this▸(if_pos b)▸(List.any_map)▸?_
 rfl
end Qh
set_option tactic.hygienic false
namespace Qh
open PySem
section
variable{P:Prog}{sc:List Int}
def Ln{f:V->M (Option V)}{l:Nat}{ts:Sc}{q:Ent->Bool}{U:H}(d:U[l]?=some (.af (ts.map Ent.v)))(g:∀e∈ts,f e.v U=.ok (if q e then some e.v else none) U):
  ∀(rest a:Sc),ts=a++rest->dG (.live l) f (rest.length+1) a.length U=.ok ((rest.filter q).map Ent.v) U:=by
 intro rest
 induction rest with
|nil=>
  intro a b;refine kM ?_
  (refine jz▸?_;refine(aN (d8 d))▸?_);simp[M.pure,b]
|cons e rest h=>
  intro a b;have c:=h (a++[e]) (by(refine b▸?_);simp);replace c:=(List.length_singleton)▸((List.length_append)▸c);rw[List.length_cons,gF ?_ (g e (by(refine b▸?_);simp)) c]
  ·(refine(List.filter_cons)▸?_);cases q e<;>rfl
  ·(refine jz▸?_;refine(aN (d8 d))▸?_);simp[M.pure,b]
def RU{C:Ctx}{L:aP}{U ae:H}{a b c:E}{t1 t2 d:Bool}(f:bQ C a L U=.ok t1 ae)(g:bQ C b L ae=.ok t2 ae)(h:bQ C c L ae=.ok d ae):bQ C (.and {a,b,c}) L U=.ok (t1&&t2&&d) ae:=by
 refine tK▸all_cons f (λe=>?_) (λe=>?_)
 ·rw[e,Bool.true_and];refine all_cons g (λe=>?_) (λe=>?_)
  ·rw[e,Bool.true_and];exact all_cons h (λe=>by(refine e▸?_);exact all_nil) (λe=>#[e,rfl])
  ·(refine e.symm▸?_);exact#[rfl,rfl]
 ·(refine e.symm▸?_);exact#[rfl,rfl]
def MK{C:Ctx}{L:aP}{U ae:H}{c a o:E}{l:Nat}{fs:List V}{x:V}{b:Bool}(d:ae[l]?=some (.af fs))(e:fs.length<=aJ)(f:bQ C c L U=.ok b ae)(g:aj C o L ae=.ok (.ref l) ae)(h:aj C a L ae=.ok x ae):
  cT C (.ite c {.append o a} .nil) L U=.ok .next L (ae.set l (.af (if b then fs++[x] else fs))):=by
 cases b with
|false=>(refine(pO f)▸?_;refine eU.symm▸?_);rw[if_neg ∅,GO d]
|true=>(refine(jD f)▸?_;refine(dt (LS g (d8 d) h (append_at d e)))▸?_;refine eU.symm▸?_);rfl
abbrev TK:SL:=match sS.body with
|.cons _ (.cons (.eV _ _ b) _)=>b
|_=>.nil
def Dw{q:Ent->Bool}:∀l:Sc,(l.filter q).isEmpty=!(l.any q)
|[]=>rfl
|e::l=>by
  refine(List.filter_cons)▸(List.any_cons)▸?_;cases q e with
  |true=>rfl
  |false=>exact Dw l
def Oe{α:Type}{xs:List α}{k:Nat}{U:H}(hk:k<1000001):jM xs (.int ((k:Int)+1)) .none U=.ok (xs.drop (k+1)) U:=by
 rw[Mc,if_pos #[~~~bw jH rfl (gg _),~~~bw 0x700700700700700700700700700790184184c049049205047247d078c184c rfl (Int.ofNat_lt.mpr hk)]]
 rfl
def Dx(l:Lv)(ks:List Mn)(e:Ent)(a:Sc):f9 l ks (e::a)=(if jP l ks a e then [e] else [])++f9 l ks a:=by show(if jP l ks a e then e::f9 l ks a else f9 l ks a)=_;cases jP l ks a e<;>rfl
def ML{n ls lk f:Nat}{l:Lv}{ks:List Mn}{a:Sc}(R:∀e∈a,e.Ok)(T:f≠ls)(X:f≠lk)(B:a.length<=100000):
  ∀(j k:Nat)(fs:Sc)(v4 v5:Option V)(U:H),k+j=a.length->fs.length<=k->U[f]?=some (.af (fs.map Ent.v))->U[ls]?=some (.af (a.map Ent.v))->U[lk]?=some (.af (ks.map Mn.ks))->
   ∃I Y Z,eK (λk=>M.pure ((d9 (a.length:Int))[k]?.map λv=>[(4,v)])) (a8 (cx P sc n) TK) (j+1) k [some (.ref ls),some (.int l.i),some (.ref lk),some (.ref f),v4,v5,none] U=.ok .next [some (.ref ls),some (.int l.i),some (.ref lk),some (.ref f),Y,Z,none] I/\
    gM f ((fs++f9 l ks (a.drop k)).map Ent.v) U I:=by
 intro j
 induction j with
|zero=>
  intro k fs v4 v5 U hk J t c q;refine#[U,v4,v5,tq ?_,?_]
  ·have:(d9 (a.length:Int))[k]?=none:=by simp[d9];exact aM rt rfl hk
   (refine this▸?_);rfl
  ·rw[List.drop_eq_nil_of_le (~~~aM rt rfl hk)];have:=gM.refl (τ:=[]) t;rw[List.append_nil] at this
   (refine(show fs++f9 l ks []=fs from List.append_nil _).symm▸?_);exact this
|succ j ih=>
  intro k fs v4 v5 U hk J t c q;have u:k<a.length:=bD km rfl hk;have g:(1000000:Nat)<=aJ:=aU _;have m:a[k]?=some a[k]:=List.getElem?_eq_getElem u;have t7:a.drop k=a[k]::a.drop (k+1):=List.drop_eq_getElem_cons u;generalize a[k]=e at m t7;have K:∀(C:Ctx)(L:aP)(s:H),s[ls]?=some (.af (a.map Ent.v))->cy L 0=some (.ref ls)->cy L 4=some (.int k)->aj C (.aq (.aa 0) (.aa 4)) L s=.ok e.v s:=λC L s h1 h2 h3=>
   cC (aB h2) (aB h3) (dP h1 (by simp[m]) (bw iF rfl (gg _)) (cS Fg rfl (Int.ofNat_le.mpr B) (Int.ofNat_lt.mpr u)))
  have gL:aj (cx P sc n) (.fX (.aa 6) 6 [0,4] (.slc (.aa 0) (.ak .Add (.aa 4) (.int 1)) .none) (.cmp .Eq (.aq (.aa 6) (.int 0)) (.aq (.aq (.aa 0) (.aa 4)) (.int 0)))) [some (.ref ls),some (.int l.i),some (.ref lk),some (.ref f),some (.int k),v5,none] U=
    .ok (.ref (U++[O.af ((a.drop (k+1)).map Ent.v)]).length) (U++[O.af ((a.drop (k+1)).map Ent.v)]++[.af (((a.drop (k+1)).filter λd=>d.x==e.x).map Ent.v)]):=by
   refine Dn (ae:=U++[O.af ((a.drop (k+1)).map Ent.v)]) (x:=.ref U.length) (sr:=.live U.length) (k:=(a.drop (k+1)).length) (TC (x:=.ref ls) (y:=.int ((k:Int)+1)) (z:=.none) (aB rfl) (bX (aB rfl) rfl rfl) rfl ?_) ?_ ?_ (by(refine(List.length_drop)▸?_);exact bD 0xe08184d3080490090490492012402412481601da1f83053801c91f41e3 rfl B g) ?_
   ·rw[Md,aN (d8 c),aN (Oe (~~~aM 0x11c91f41e30613012412412481601da1f834534184c rfl B u)),if_pos #[rfl,by rw[List.length_map];exact aM Fh rfl B g],←List.map_drop];rfl
   ·(refine pg▸?_;refine(aN (d8 bA))▸?_);rfl
   ·rw[pa,aN (d8 bA),List.length_map];rfl
   ·refine Ln bA (λd D=>?_) (a.drop (k+1)) [] rfl;rw[aN (cZ ⋯ (cC (K _ _ _ (old c) ⋯ ⋯) rfl rfl) rfl)];cases (d.x==e.x) with
    |true=>rfl'
    |false=>rfl
  generalize F:U++[O.af ((a.drop (k+1)).map Ent.v)]=ae at gL;have w:∀{i:Nat}{o:O},U[i]?=some o->(ae++[O.af (((a.drop (k+1)).filter λd=>d.x==e.x).map Ent.v)])[i]?=some o:=λh=>by(refine F▸?_);exact old (old h)
  generalize G:ae++[O.af (((a.drop (k+1)).filter λd=>d.x==e.x).map Ent.v)]=ao at gL w;have UO:ao[ae.length]?=some (.af (((a.drop (k+1)).filter λd=>d.x==e.x).map Ent.v)):=by(refine G▸?_);exact bA
  have TL:∃τ,ao=U++τ:=#[[O.af ((a.drop (k+1)).map Ent.v)]++[O.af (((a.drop (k+1)).filter λd=>d.x==e.x).map Ent.v)],by rw[←G,←F,List.append_assoc]];have r:bQ (cx P sc n) (.and {.cmp .Eq (.aa 5) (.af .nil),.cmp .Eq (.aq (.aq (.aa 0) (.aa 4)) (.int 1)) (.aa 1),.cmp .In (.aq (.aq (.aa 0) (.aa 4)) (.int 2)) (.aa 2)}) [some (.ref ls),some (.int l.i),some (.ref lk),some (.ref f),some (.int k),some (.ref ae.length),none] ao=
    .ok (jP l ks (a.drop (k+1)) e) (ao++[.af []]):=by
   refine RU (cZ (aB rfl) (dE a6 ∅) ?_) (cZ (cC (K _ _ _ (old (w c)) rfl rfl) rfl rfl) (aB rfl) rfl) (cZ (cC (K _ _ _ (old (w c)) rfl rfl) rfl rfl) (aB rfl) ?_)
   ·rw[lZ,eq_nil (λd D=>(λd h=>R d (List.mem_of_mem_drop h)) d (List.mem_filter.mp D).1) (old UO) bA,Dw]
   ·(refine qV▸?_);exact Od (old (w q))
  refine cb (TL) λτ kI=>?_;have b:=MK (L:=[some (.ref ls),some (.int l.i),some (.ref lk),some (.ref f),some (.int k),some (.ref ae.length),none]) (old (w t)) (by rw[List.length_map];exact ej 0xd3012412412412412481601da1f83853cc14e0613c53401c91f41e3 rfl B J u g) r (aB (i:=3) rfl) (K _ _ _ (old (w c)) rfl rfl);have hfs:(if jP l ks (a.drop (k+1)) e=true then fs.map Ent.v++[e.v] else fs.map Ent.v)=(if jP l ks (a.drop (k+1)) e then fs++[e] else fs).map Ent.v:=by cases jP l ks (a.drop (k+1)) e<;>simp
  replace b:=hfs▸b;generalize p:(if jP l ks (a.drop (k+1)) e then fs++[e] else fs)=A at b;have hnl:A.length<=k+1:=by
   refine p▸?_
   split
   ·(refine(List.length_append)▸?_;refine(List.length_singleton).symm▸?_);exact aM tx rfl J
   ·exact aM 0x6134c04904920534c rfl J
  have Q:gM f (A.map Ent.v) U ((ao++[O.af []]).set f (.af (A.map Ent.v))):=#[τ++[.af []],by rw[kI,List.append_assoc,zR (qp t)]];refine g9 (ih (k+1) A (some (.int k)) (some (.ref ae.length)) _ (cm (bD oc rfl hk) (bD og rfl hk)) hnl (Q.self (qp t)) (Q.other c T) (Q.other q X)) λI Y Z f1 f2=>#[I,Y,Z,?_,?_]
  ·rw[q9 (ps:=[(4,.int k)]) (ae:=U) (L1:=[some (.ref ls),some (.int l.i),some (.ref lk),some (.ref f),some (.int k),v5,none]) (L2:=[some (.ref ls),some (.int l.i),some (.ref lk),some (.ref f),some (.int k),some (.ref ae.length),none]) (ao:=(ao++[O.af []]).set f (.af (A.map Ent.v))) ?_ rfl ?_,f1]
   ·have:(d9 (a.length:Int))[k]?=some (.int k):=by simp[d9,u]
    (refine this▸?_);rfl
   ·exact(bj gL).trans ((dt b).trans eU)
  ·have:=Q.trans (qp t) f2;refine t7▸?_;rw[Dx,←List.append_assoc,show fs++(if jP l ks (a.drop (k+1)) e then [e] else [])=A by(refine p▸?_);cases jP l ks (a.drop (k+1)) e<;>simp];exact this
def vE(f:P.fns 30=some sS){n ls lk:Nat}{l:Lv}{ks:List Mn}{b:Sc}{U:H}(g:∀e∈b,e.Ok)(h:b.length<=100000)(a:U[ls]?=some (.af (b.map Ent.v)))(c:U[lk]?=some (.af (ks.map Mn.ks))):
  ∃τ,av P sc (n+1) 30 [.ref ls,.int l.i,.ref lk] U=.ok (.ref U.length) (U++τ)/\(U++τ)[U.length]?=some (.af ((f9 l ks b).map Ent.v)):=by have d:(1000000:Nat)<=aJ:=aU _;obtain⟨j,k,m,f1,τ,rfl⟩:=ML g (Nat.ne_of_gt (qp a)) (Nat.ne_of_gt (qp c)) h b.length 0 [] none none (U++[.af []]) (cm (a7 jG rfl) (a7 oh rfl)) (gp _) bA (old a) (old c);rw[zQ,List.drop_zero,List.nil_append] at f1;refine#[[.af ((f9 l ks b).map Ent.v)]++τ,?_,by rw[←List.append_assoc];exact old bA];rw[cI f rfl,←List.append_assoc];exact(congrArg cp ((bj (dE a6 ∅)).trans ((dt (vT (e_len (aB rfl) (xc (old a) (by rw[List.length_map];exact aM Fh rfl h d))) (by rw[List.length_map];exact#[bw iF rfl (gg _),bw 0x7247d078cc049049205807687e0c rfl (Int.ofNat_le.mpr h)]) (by rw[List.length_map];exact f1))).trans (bq (aB rfl))))).trans rfl
end
abbrev St(st:Nat)(U:H):Prop:=∃k c:Int,0<=k/\U[st]?=some (.af [.int k,.int c])
def St.lt(h:St st U):st<U.length:=qp h.choose_spec.choose_spec.2
structure bx(st:Nat)(U ah:H):Prop where
 state:St st ah
 len:U.length<=ah.length
 same:∀i,i≠st->i<U.length->ah[i]?=U[i]?
section
variable{st:Nat}{U ae ao τ:H}
def bx.trans(x:bx st U ae)(y:bx st ae ao):bx st U ao:=
 #[y.state,bZ x.len y.len,λi a b=>(y.same i a (Nat.lt_of_lt_of_le b x.len)).trans (x.same i a b)]
def bx.refl(x:St st U):bx st U U:=#[x,aU _,λ_ _ _=>rfl]
def bx.add(x:St st U):bx st U (U++τ):=by exact bl (x) λk c a hk=>#[#[k,c,a,old hk],by(refine(List.length_append)▸?_);(exact eG _ _),λi d b=>List.getElem?_append_left b]
def bx.more(x:bx st U ae):bx st U (ae++τ):=x.trans (bx.add x.state)
def bx.get(x:bx st U ae)(a:i≠st)(h:U[i]?=some o):ae[i]?=some o:=(x.same i a (qp h)).trans h
end
def mF{st ls:Nat}{U:H}{a:Sc}(h:St st U)(b:U[ls]?=some (.af (a.map Ent.v))):ls≠st:=by
 refine bl (h) λk c _ h=>?_;rintro rfl;replace h:=b▸h
 match a with
|[]=>cases h
|[_]=>cases h
|_::_::_=>cases h
abbrev aZ(C:Ctx)(L:aP)(st:Nat)(s:H)(b:SL)(G:Tm->Prop):Prop:=∃t s' L',a8 C b L s=.ok (.ret t.ag) L' s'/\bx st s s'/\G t
section
variable{C:Ctx}{L:aP}{st:Nat}{s s1:H}{r:SL}{G:Tm->Prop}
def aZ.aK(h:aj C e L s=.ok v s1)(k:bx st s s1)(a:aZ C (cq L i v) st s1 r G):aZ C L st s (.cons (.aK i e) r) G:=by exact gi (a) λt s' b c k1 g=>#[t,s',b,(bj h).trans c,k.trans k1,g]
def aZ.step(h:cT C x L s=.ok .next L1 s1)(k:bx st s s1)(a:aZ C L1 st s1 r G):aZ C L st s (.cons x r) G:=by exact gi (a) λt s' b c k1 g=>#[t,s',b,(dt h).trans c,k.trans k1,g]
def aZ.ret(h:aj C e L s=.ok t.ag s1)(k:bx st s s1)(g:G t):aZ C L st s (.cons (.ret e) r) G:=#[t,s1,L,bq h,k,g]
def aZ.skip(h:bQ C c L s=.ok false s1)(k:bx st s s1)(a:aZ C L st s1 r G):aZ C L st s (.cons (.ite c yi .nil) r) G:=by exact gi (a) λt s' b d k1 g=>#[t,s',b,(cj h).trans d,k.trans k1,g]
def aZ.take(h:bQ C c L s=.ok true s1)(k:bx st s s1)(a:aZ C L st s1 yi G):aZ C L st s (.cons (.ite c yi .nil) r) G:=by exact gi (a) λt s' b d k1 g=>#[t,s',b,cu h d,k.trans k1,g]
end
abbrev dZ(C:Ctx)(L:aP)(st:Nat)(s:H)(a:E)(Q:Prop):Prop:=∃b s1,bQ C a L s=.ok b s1/\bx st s s1/\(b=true->Q)
section
variable{C:Ctx}{L:aP}{st:Nat}{s:H}{r:SL}{G:Tm->Prop}
def aZ.ite(h:dZ C L st s c Q)(a:∀s1,bx st s s1->Q->aZ C L st s1 yi G)(d:∀s1,bx st s s1->aZ C L st s1 r G):aZ C L st s (.cons (.ite c yi .nil) r) G:=by
 refine dk (h) λb s1 e k q=>?_;cases b with
|true=>exact .take e k (a s1 k (q rfl))
|false=>exact .skip e k (d s1 k)
def dZ.pure(c:St st s)(h:bQ C a L s=.ok b s):dZ C L st s a (b=true):=#[b,s,h,.refl c,λe=>e]
def dZ.aV(d:dZ C L st s a Q1)(e:∀s1,bx st s s1->dZ C L st s1 b Q2):dZ C L st s (.and {a,b}) (Q1/\Q2):=by
 obtain⟨f,s1,c,k1,q1⟩:=d;obtain⟨g,h,i,j,q2⟩:=e s1 k1;cases f with
|false=>exact#[false,s1,je (all_cons c (~~~ff) (λ_=>#[rfl,rfl])),k1,λq=>~~~ff q]
|true=>exact#[g,h,je (all_cons c (λ_=>all_cons i (λq=>by(refine q▸?_);exact all_nil) (λq=>#[q,rfl])) (~~~tf)),k1.trans j,λq=>#[q1 rfl,q2 q]]
def dZ.IU(h:dZ C L st s a Q1)(i:∀s1,bx st s s1->dZ C L st s1 b Q2)(j:∀s1,bx st s s1->dZ C L st s1 c Q3):dZ C L st s (.and {a,b,c}) (Q1/\Q2/\Q3):=by
 refine dk (h) λk s1 d k1 q1=>dk (i s1 k1) λl f g e q2=>dk (j f (k1.trans e)) λm n o k3 q3=>?_;cases k with
|false=>exact#[false,s1,je (all_cons d (~~~ff) (λ_=>#[rfl,rfl])),k1,λq=>~~~ff q]
|true=>
  cases l with
  |false=>exact#[false,f,je (all_cons d (λ_=>all_cons g (~~~ff) (λ_=>#[rfl,rfl])) (~~~tf)),k1.trans e,λq=>~~~ff q]
  |true=>exact#[m,n,je (all_cons d (λ_=>all_cons g (λ_=>all_cons o (λq=>by(refine q▸?_);exact all_nil) (λq=>#[q,rfl])) (~~~tf)) (~~~tf)),(k1.trans e).trans k3,λq=>#[q1 rfl,q2 rfl,q3 q]]
def dZ.V0(d:dZ C L st s a Q1)(e:∀s1,bx st s s1->dZ C L st s1 b Q2):dZ C L st s (.or {a,b}) True:=by
 obtain⟨f,s1,c,k1,q1⟩:=d;obtain⟨g,h,i,j,q2⟩:=e s1 k1;clear q1;cases f with
|true=>exact#[true,s1,ic (any_cons c (~~~tf) (λ_=>#[rfl,rfl])),k1,λ_=>trivial]
|false=>exact#[g,h,ic (any_cons c (λ_=>any_cons i (λq=>by(refine q▸?_);exact any_nil) (λq=>#[q,rfl])) (~~~ff)),k1.trans j,λ_=>trivial]
def dZ.full(d:St st s)(b:∀e∈c,e.Ok)(f:cy L i=some (.ref a))(g:s[a]?=some (.af (c.map Ent.v))):dZ C L st s (.cmp .NotEq (.aa i) (.af .nil)) (c≠[]):=by
 refine#[!c.isEmpty,s++[.af []],cZ (aB f) (dE a6 ∅) ?_,bx.add d,λq h=>by(replace q:=h▸q);exact ff q]
 (refine pf▸?_;refine(aN (eq_nil b (old g) bA))▸?_);rfl
def dZ.void{b:Sc}(d:St st s)(c:∀e∈b,e.Ok)(f:cy L i=some (.ref a))(g:s[a]?=some (.af (b.map Ent.v))):dZ C L st s (.cmp .Eq (.aa i) (.af .nil)) True:=by refine#[b.isEmpty,s++[.af []],cZ (aB f) (dE a6 ∅) ?_,bx.add d,λ_=>trivial];refine lZ▸(eq_nil c (old g) bA)▸?_;with_reducible rfl
def HM(f:c≠[])(m:c.length<=100000)(g:cy L i=some (.ref a))(h:s[a]?=some (.af (c.map Ent.v)))(n:aj C q L s=.ok (.int num) s):
  ∃e∈c,aj C (.aq (.aa i) (.ak .Mod q (.len (.aa i)))) L s=.ok e.v s:=by
 have k:(1000000:Nat)<=aJ:=aU _;have b:0<c.length:=List.length_pos_iff.mpr f;have o:0<=num.fmod (c.length:Int):=Int.fmod_nonneg_of_pos _ (bw wb rfl (Int.ofNat_lt.mpr b));have p:num.fmod (c.length:Int)<c.length:=Int.fmod_lt_of_pos _ (bw wb rfl (Int.ofNat_lt.mpr b));refine cb (Int.eq_ofNat_of_zero_le o) λj l=>?_;have d:j<c.length:=BD p l;refine#[c[j],List.getElem_mem d,cC (aB g) (bX n (e_len (aB g) (xc h (by rw[List.length_map];(exact bZ () (ee _ _))))) ?_) (dP h ?_ (gg _) (cS Fg rfl (Int.ofNat_le.mpr m) (Int.ofNat_lt.mpr d)))]
 ·rw[List.length_map];exact xa (Int.ofNat_lt.mpr b) l
 ·simp[d]
def pick(b:c≠[])(d:c.length<=100000)(f:cy L i=some (.ref a))(g:s[a]?=some (.af (c.map Ent.v)))(j:aj C q L s=.ok (.int num) s):
  ∃e∈c,aj C (.aq (.aq (.aa i) (.ak .Mod q (.len (.aa i)))) (.int 0)) L s=.ok (.str e.x) s:=by exact aQ (HM b d f g j) λe k h=>#[e,k,cC h rfl rfl]
end
def ta(l:Lv)(ks:List Mn):∀a:Sc,(f9 l ks a).length<=a.length
|[]=>aU _
|e::a=>by
  have:=ta l ks a;rw[Dx,List.length_append,List.length_cons]
  split
  ·exact Nat.add_comm _ _▸Nat.succ_le_succ this
  ·exact kF ((Nat.zero_add _).symm▸this)
def V1{l:Lv}(h:(l.i==1)=true):l=.o:=by
 cases l with
|z=>exact absurd h ∅
|o=>rfl
def B5{l:Lv}(h:l=.o->Kd.ba=.aD):l=.z:=by
 cases l with
|z=>rfl
|o=>exact absurd (h rfl) (by intro h;cases h)
abbrev Lv.flip:Lv->Lv
|.z=>.o|.o=>.z
abbrev okd:Lv->Kd
|.z=>.aD|.o=>.ba
abbrev V2(l:Lv)(a b:Nat):Nat:=match l with
|.z=>a
|.o=>b
section
variable{P:Prog}{sc:List Int}{G:Nat->Sc->Lv->Bool->Tm->Kd->Prop}(B:Base P)(h30:P.fns 30=some sS)(JH:P.fns 31=some vt)(W:Gr G)
include B h30 JH W
def MM{n st ls:Nat}{g:Sc}{l:Lv}{k:Kd}(hs:St st U)(y:U[ls]?=some (.af (g.map Ent.v)))(m:∀e∈g,e.Ok)(cz:g.length<=100000)(T:l=.o->k=.aD):
  ∃t ah,av P sc (n+2) 31 [.cF,.ref st,.int l.i,.str k.s,.ref ls,.int num] U=.ok t.ag ah/\(∀d,G d g l f t k)/\bx st U ah:=by
 rw[cI JH rfl]
 suffices h:aZ (cx P sc (n+1)) [some .cF,some (.ref st),some (.int l.i),some (.str k.s),some (.ref ls),some (.int num),none,none,none] st U vt.body (λt=>(∀d,G d g l f t k)) by
  exact gi (h) λt s' L' e F I=>#[t,s',(congrArg cp e).trans rfl,I,F]
 refine aQ (vE (sc:=sc) h30 (n:=n) (l:=l) (ks:=[.val k]) m cz (old (τ:=[.af [(Mn.val k).ks]]) y) bA) λbJ a1 X=>aZ.aK (aT (aS rfl (aS rfl (ax (dE (ax (cf (by rfl) ∅) a6) ∅) a6))) a1) ((bx.add hs).more) ?_;generalize ha:(U++[O.af [(Mn.val k).ks]]).length=A at X;generalize IV:U++[O.af [(Mn.val k).ks]]++bJ=ae at X;have k1:bx st U ae:=by rw[←IV];exact(bx.add hs).more
 have hA:A≠st:=ha▸Nat.ne_of_gt ((bx.add hs).state.lt)
 obtain⟨de,b1,K⟩:=vE (sc:=sc) h30 (n:=n) (l:=l.flip) (ks:=[.val (okd l)]) (ls:=ls) (lk:=(V2 l ae.length (ae++[O.af [(Mn.val .aD).ks]]).length)) (U:=ae++[.af [(Mn.val .aD).ks]]++[.af [(Mn.val .ba).ks]]++[.af [.ref ae.length,.ref (ae++[O.af [(Mn.val .aD).ks]]).length]]) m cz (old (old (old (k1.get (mF hs y) y)))) (by
  cases l with
  |z=>exact old (old bA)
  |o=>exact old bA)
 refine aZ.aK (s1:=ae++[.af [(Mn.val .aD).ks]]++[.af [(Mn.val .ba).ks]]++[.af [.ref ae.length,.ref (ae++[O.af [(Mn.val .aD).ks]]).length]]++de) (v:=.ref (ae++[O.af [(Mn.val .aD).ks]]++[O.af [(Mn.val .ba).ks]]++[O.af [.ref ae.length,.ref (ae++[O.af [(Mn.val .aD).ks]]).length]]).length) ?_ ((((bx.add k1.state).more).more).more) ?_
 ·refine aT (aS rfl (ax (x:=.int l.flip.i) (bX rfl (aB rfl) (by cases l<;>rfl)) (ax (cC (dE (ax (dE (ax (cf (by rfl) ∅) a6) ∅) (ax (dE (ax (cf (by rfl) ∅) a6) ∅) a6)) ∅) (aB rfl) ?_) a6))) b1;cases l with
  |z=>exact dP bA rfl ∅ ∅
  |o=>exact dP bA rfl ∅ ∅
 generalize hb:(ae++[O.af [(Mn.val .aD).ks]]++[O.af [(Mn.val .ba).ks]]++[O.af [V.ref ae.length,V.ref (ae++[O.af [(Mn.val .aD).ks]]).length]]).length=D at K;have UP:∃τ,ae++[O.af [(Mn.val .aD).ks]]++[O.af [(Mn.val .ba).ks]]++[O.af [V.ref ae.length,V.ref (ae++[O.af [(Mn.val .aD).ks]]).length]]++de=ae++τ:=#[_,by rw[List.append_assoc,List.append_assoc,List.append_assoc]];obtain⟨τ,kI⟩:=UP;rw[kI] at K ⊢;have f2:(ae++τ)[A]?=_:=old X;have k2:bx st U (ae++τ):=k1.more;have R:D≠st:=hb▸Nat.ne_of_gt ((bx.add (bx.add (bx.add k1.state).state).state).state.lt);generalize ae++τ=ao at K f2 k2;have yj:∀e∈f9 l.flip [.val (okd l)] g,e.Ok:=λe p=>m e (kO _ _ _ _ p).2.2.1;have IW:=bZ (ta l.flip [.val (okd l)] g) cz;show aZ (cx P sc (n+1)) [some .cF,some (.ref st),some (.int l.i),some (.str k.s),some (.ref ls),some (.int num),some (.ref A),some (.ref D),none] st ao _ _;refine aZ.ite (Q:=f9 l [.val k] g≠[]) ?_ (λY k3 J=>?_) (λY k3=>?_)
 ·exact dk (dZ.IU (C:=cx P sc (n+1)) (L:=[some .cF,some (.ref st),some (.int l.i),some (.str k.s),some (.ref ls),some (.int num),some (.ref A),some (.ref D),none]) (a:=.cmp .Gt (.ak .Mod (.aa 5) (.int 4)) (.int 0)) (b:=.cmp .NotEq (.aa 6) (.af .nil)) (c:=.or {.cmp .Eq (.ak .Mod (.ak .FloorDiv (.aa 5) (.int 4)) (.int 3)) (.int 0),.cmp .Eq (.aa 7) (.af .nil)}) (dZ.pure k2.state rfl) (λs1 q1=>dZ.full q1.state (λe p=>m e (kO _ _ _ _ p).2.2.1) rfl (q1.get hA f2)) (λs1 q1=>dZ.V0 (dZ.pure q1.state rfl) λs2 q2=>dZ.void q2.state yj rfl ((q1.trans q2).get R K))) λb s e F q=>#[b,s,e,F,λh=>(q h).2.1]
 ·refine aQ (pick (C:=cx P sc (n+1)) (L:=[some .cF,some (.ref st),some (.int l.i),some (.str k.s),some (.ref ls),some (.int num),some (.ref A),some (.ref D),none]) (i:=6) (q:=.ak .FloorDiv (.aa 5) (.int 12)) J (bZ (ta l [.val k] g) cz) rfl (k3.get hA f2) rfl) λe p Z=>jL (kO _ _ _ _ p) λI r _ h3=>?_;have u:=xd h3;refine aZ.ret (t:=.name e.x) (cf (ax rfl (ax Z a6)) ∅) (.refl k3.state) (λ_=>W.name ?_);rw[I,←r,←u]
 ·have b3:=k3.get R K;refine fD (CV B (sc:=sc) (n:=n) (x:=num.fdiv 16) Y) λi fB e3=>aZ.aK (cf (ax rfl (ax (aT (ax (bX (aB rfl) rfl rfl) a6) e3) a6)) ∅) (bx.add k3.state) ?_;show aZ (cx P sc (n+1)) [some .cF,some (.ref st),some (.int l.i),some (.str k.s),some (.ref ls),some (.int num),some (.ref A),some (.ref D),some (Tm.num i).ag] st (Y++fB) _ _;have b4:=old (τ:=fB) b3;have s4:St st (Y++fB):=(bx.add k3.state).state;generalize Y++fB=s4 at b4 s4;refine aZ.ite (Q:=l=.o/\f9 l.flip [.val (okd l)] g≠[]) ?_ (λs5 w J=>?_) (λs5 w=>?_)
  ·exact dk (dZ.IU (C:=cx P sc (n+1)) (L:=[some .cF,some (.ref st),some (.int l.i),some (.str k.s),some (.ref ls),some (.int num),some (.ref A),some (.ref D),some (Tm.num i).ag]) (a:=.cmp .Eq (.aa 2) (.int 1)) (b:=.cmp .NotEq (.aa 7) (.af .nil)) (c:=.cmp .Gt (.ak .Mod (.aa 5) (.int 4)) (.int 0)) (dZ.pure (b:=l.i==1) s4 rfl) (λs1 q1=>dZ.full q1.state yj rfl (q1.get R b4)) (λs1 q1=>dZ.pure q1.state rfl)) λb s e F q=>#[b,s,e,F,λh=>#[V1 (q h).1,(q h).2.1]]
  ·refine aX (J) λcM J=>?_;clear b3 yj f2 K b1 X a1;subst cM;refine aQ (pick (C:=cx P sc (n+1)) (L:=[some .cF,some (.ref st),some (.int Lv.o.i),some (.str k.s),some (.ref ls),some (.int num),some (.ref A),some (.ref D),some (Tm.num i).ag]) (i:=7) (q:=.ak .FloorDiv (.aa 5) (.int 12)) J IW rfl (w.get R b4) rfl) λe p Z=>jL (kO _ _ _ _ p) λI r _ h3=>?_;have u:=xd h3;refine aZ.ret (t:=.un .hole (.name e.x)) (cf (ax rfl (ax (cf (ax rfl (ax Z a6)) ∅) a6)) ∅) (.refl w.state) ?_;rw[T rfl];refine λ_=>W.kB ?_;rw[I];obtain⟨ex,el,em⟩:=e;have r:el=.z:=r;have u:em=.val .ba:=u;rw[r,u]
  ·clear f2 b1 X IV ha a1;cases k with
   |aD=>
    exact aZ.take ⋯ (.refl w.state) (aZ.ret (aB rfl) (.refl w.state) (λ_=>W.num))
   |ba=>
    obtain rfl:l=.z:=B5 T;refine aZ.skip ⋯ (.refl w.state) ?_;have b5:=w.get R b4;refine aZ.ite (Q:=f9 Lv.z.flip [.val (okd .z)] g≠[]) ?_ (λs6 k6 J=>?_) (λs6 k6=>?_)
    ·exact dk (dZ.aV (C:=cx P sc (n+1)) (L:=[some .cF,some (.ref st),some (.int Lv.z.i),some (.str Kd.ba.s),some (.ref ls),some (.int num),some (.ref A),some (.ref D),some (Tm.num i).ag]) (a:=.cmp .NotEq (.aa 7) (.af .nil)) (b:=.cmp .Gt (.ak .Mod (.aa 5) (.int 4)) (.int 0)) (dZ.full w.state yj rfl b5) (λs1 q1=>dZ.pure q1.state rfl)) λb s e F q=>#[b,s,e,F,λh=>(q h).1]
    ·refine bB λXx aH=>aQ (pick (C:=cx P sc (n+1)) (L:=[some .cF,some (.ref st),some (.int Lv.z.i),some (.str Kd.ba.s),some (.ref ls),some (.int num),some (.ref A),some (.ref D),some (Tm.num i).ag]) (i:=7) (q:=.ak .FloorDiv (.aa 5) (.int 12)) J IW rfl (k6.get R b5) rfl) λe p Z=>jL (kO _ _ _ _ p) λI r _ h3=>aH ?_;have u:=xd h3;refine aZ.ret (cf (ax rfl (ax (cf (ax rfl (ax Z a6)) ∅) a6)) ∅) (.refl k6.state) (λ_=>W.la ?_);rw[I];obtain⟨ex,el,em⟩:=e;have r:el=.o:=r;have u:em=.val .aD:=u;rw[r,u]
    ·have hj:=kW B (a:=num.fdiv 16) (b:=2) ∅;generalize sD:(num.fdiv 16).fmod 2=j at hj;have hex:∃t:Tm,[(Tm.un .lift (.num i)).ag,(Tm.un .bK (.num i)).ag][j.toNat]?=some t.ag/\(∀d,G d g .z f t .ba):=by
      have:j.toNat=0∨j.toNat=1:=Jh (su hj.1 hj.2);rcases this with q|q<;>rw[q]
      ·exact#[.un .lift (.num i),rfl,λ_=>W.lp]
      ·exact#[.un .bK (.num i),rfl,λ_=>W.lb]
     refine aQ (hex) λt ht1 V3=>aZ.ret (cC (dE (ax (cf rfl ∅) (ax (cf rfl ∅) a6)) ∅) (bX (bX (aB rfl) rfl rfl) rfl (by rw[←sD];rfl)) (dP bA ht1 (bw iF rfl hj.1) (bw Fi rfl hj.2))) (bx.add k6.state) V3
end
set_option genCtorIdx false in
inductive Wd where|aY|bg|def_|when|use|kept|bK|lift|hole|run|ak (u:U2)
abbrev Wd.s:Wd->Str
|.aY=>"let"|.bg=>"turns"|.def_=>"def"|.when=>"when"|.use=>"use"|.kept=>"kept"|.bK=>"quote"|.lift=>"lift"|.hole=>"hole"|.run=>"run"|.ak u=>u.str
abbrev gj:List Wd:=[.aY,.bg,.def_,.when,.use,.use]
abbrev gG:Lv->Kd->Bool->List Wd
|_,.ba,_=>[.bK,.bK,.bK,.bK,.bK,.bK,.lift]
|.o,.aD,_=>[.ak .sum,.ak .sum,.ak .product,.ak .less,.hole,.hole,.kept,.kept,.kept,.kept,.kept]
|.z,.aD,true=>[.ak .sum,.ak .product,.ak .less,.run,.run,.run,.run,.run,.run]
|.z,.aD,false=>[.ak .sum,.ak .product,.ak .less]
abbrev Wd.fits(l:Lv)(k:Kd)(f:Bool):Wd->Prop
|.kept=>l=.o/\k=.aD
|.bK=>k=.ba
|.lift=>k=.ba
|.hole=>l=.o/\k=.aD
|.run=>l=.z/\k=.aD/\f=true
|.ak _=>k=.aD
|_=>True
def MN(l:Lv)(k:Kd)(f:Bool):∀w∈gj++gG l k f,w.fits l k f:=by
 intro w a;rcases List.mem_append.mp a with h|h
 ·simp only[gj,List.mem_cons,List.not_mem_nil,or_false] at h;rcases h with rfl|rfl|rfl|rfl|rfl|rfl<;>trivial
 ·clear a;cases k with
  |ba=>
   have h:w∈[Wd.bK,.bK,.bK,.bK,.bK,.bK,.lift]:=by cases l<;>exact h
   simp only[List.mem_cons,List.not_mem_nil,or_false] at h;rcases h with rfl|rfl|rfl|rfl|rfl|rfl|rfl<;>exact rfl
  |aD=>
   cases l with
   |o=>
    have h:w∈[Wd.ak .sum,.ak .sum,.ak .product,.ak .less,.hole,.hole,.kept,.kept,.kept,.kept,.kept]:=h;simp only[List.mem_cons,List.not_mem_nil,or_false] at h;rcases h with rfl|rfl|rfl|rfl|rfl|rfl|rfl|rfl|rfl|rfl|rfl<;>first|exact rfl|exact#[rfl,rfl]
   |z=>
    cases f with
    |true=>
     have h:w∈[Wd.ak .sum,.ak .product,.ak .less,.run,.run,.run,.run,.run,.run]:=h;simp only[List.mem_cons,List.not_mem_nil,or_false] at h;rcases h with rfl|rfl|rfl|rfl|rfl|rfl|rfl|rfl|rfl<;>first|exact rfl|exact#[rfl,rfl,rfl]
    |false=>
     have h:w∈[Wd.ak .sum,.ak .product,.ak .less]:=h;simp only[List.mem_cons,List.not_mem_nil,or_false] at h;rcases h with rfl|rfl|rfl<;>exact rfl
section
variable{P:Prog}{sc:List Int}
abbrev wv(w:Wd):V:=.str w.s
def LV(d:P.fns 32=some yB):∃a τ,av P sc (n+1) 32 [.int l.i,.str k.s,.bool f] U=.ok (.ref a) (U++τ)/\U.length<=a/\(U++τ)[a]?=some (.af ((gj++gG l k f).map wv)):=by
 refine#[(U++[O.af (gj.map wv)]++[O.af ((gG l k f).map wv)]).length,[.af (gj.map wv),.af ((gG l k f).map wv),.af ((gj++gG l k f).map wv)],?_,by simp,by simp];have c:U++[O.af (gj.map wv),.af ((gG l k f).map wv),.af ((gj++gG l k f).map wv)]=U++[.af (gj.map wv)]++[.af ((gG l k f).map wv)]++[.af ((gj++gG l k f).map wv)]:=by simp
 have b:binop .Add (.ref U.length) (.ref (U++[O.af (gj.map wv)]).length) (U++[.af (gj.map wv)]++[.af ((gG l k f).map wv)])=.ok (.ref (U++[O.af (gj.map wv)]++[O.af ((gG l k f).map wv)]).length) (U++[.af (gj.map wv)]++[.af ((gG l k f).map wv)]++[.af ((gj++gG l k f).map wv)]):=by
  refine(List.map_append)▸?_;exact add_lists (old bA) bA (by(clear c;cases k)<;>cases l<;>cases f<;>exact nb rfl)
 rw[cI d rfl,c];refine(congrArg cp (bj (dE rfl ∅))).trans ?_;clear c;cases k with
|ba=>
  refine(congrArg cp (cu ⋯ (bq (bX (aB rfl) (dE (by cases l<;>rfl) (by cases l<;>exact nb rfl)) b)))).trans rfl
|aD=>
  cases l with
  |o=>exact(congrArg cp ((cj ⋯).trans (cu ⋯ (bq (bX (aB rfl) (dE rfl ∅) b))))).trans rfl
  |z=>
   cases f with
   |true=>exact(congrArg cp ((cj ⋯).trans ((cj ⋯).trans (cu ⋯ (bq (bX (aB rfl) (dE rfl ∅) b)))))).trans rfl
   |false=>exact(congrArg cp ((cj ⋯).trans ((cj ⋯).trans ((cj ⋯).trans (bq (bX (aB rfl) (dE rfl ∅) b)))))).trans rfl
variable(B:Base P)
include B
def LW(b:sc.length<=63)(a:U[st]?=some (.af [.int k,.int c]))(hk:0<=k):
  av P sc (n+3) 8 [.cF,.ref st] U=.ok (.int (mixed sc (k+1))) (U.set st (.af [.int (k+1),.int c])):=by rw[cI B.next rfl];exact(congrArg cp ((dt (j7 (bX (cC (aB rfl) rfl (dP a rfl ∅ ∅)) rfl rfl) (aB rfl) rfl (mq a #[∅,(by decide:(0:Int)<2),nb rfl]))).trans (bq (aT (aS rfl (ax (cC (aB rfl) rfl (dP (gy a) rfl ∅ ∅)) a6)) (yK B (bw jH rfl hk) b _))))).trans rfl
omit B in
def bx.turn(a:U[st]?=some (.af [.int k,.int c]))(hk:0<=k'):bx st U (U.set st (.af [.int k',.int c'])):=by refine#[#[k',c',hk,gy a],by simp,λi b _=>?_];rw[List.getElem?_set_ne (Ne.symm b)]
omit B in
def HN{C:Ctx}{L:aP}{s:H}{is:List Int}{es:EL}{q:E}{num m:Int}(d:dC C es L s=.ok (is.map .int) s)(f:is.length<=100)(h:m=is.length)(a:0<m)(k:aj C q L (s++[.af (is.map .int)])=.ok (.int num) (s++[.af (is.map .int)])):
  ∃i∈is,aj C (.aq (.af es) (.ak .Mod q (.int m))) L s=.ok (.int i) (s++[.af (is.map .int)]):=by
 have g:0<=num.fmod m:=Int.fmod_nonneg_of_pos _ a;have l:num.fmod m<m:=Int.fmod_lt_of_pos _ a;refine cb (Int.eq_ofNat_of_zero_le g) λj e=>?_;have b:j<is.length:=BD (h▸l) e;have c:(1000000:Nat)<=aJ:=aU _;refine#[is[j],List.getElem_mem b,cC (dE d (by rw[List.length_map];exact aM 0xd3012412412481641e13053401c91f41e3 rfl f c)) (bX (r:=.int j) k rfl ?_) (dP bA ?_ (~~~cS Fj rfl g e) (~~~cS Fm rfl (Int.ofNat_le.mpr f) (Int.ofNat_lt.mpr b)))]
 ·exact xa a e
 ·simp[b]
omit B in
def F4{C:Ctx}{L:aP}{s:H}{l:Lv}(b:cy L i=some (.int l.i))(f:aj C q L (s++[.af [.str Kd.aD.s,.str Kd.ba.s]])=.ok (.int num) (s++[.af [.str Kd.aD.s,.str Kd.ba.s]])):
  ∃k:Kd,aj C (.aq (.af {.str "number",.str "piece"}) (.ak .Mult (.ak .Mod q (.int 2)) (.ak .Sub (.int 1) (.aa i)))) L s=.ok (.str k.s) (s++[.af [.str Kd.aD.s,.str Kd.ba.s]])/\(l=.o->k=.aD):=by
 have g:0<=num.fmod 2:=Int.fmod_nonneg_of_pos _ ∅;have j:num.fmod 2<2:=Int.fmod_lt_of_pos _ ∅;have c:∃k:Kd,[V.str Kd.aD.s,V.str Kd.ba.s][(num.fmod 2*(1-l.i)).toNat]?=some (.str k.s)/\(l=.o->k=.aD)/\0<=num.fmod 2*(1-l.i)/\num.fmod 2*(1-l.i)<2:=by
  rcases m2 num with q|q<;>(refine q.symm▸?_)<;>(clear b;cases l)
  ·exact#[.aD,rfl,λ_=>rfl,∅,∅]
  ·exact#[.aD,rfl,λ_=>rfl,∅,∅]
  ·exact#[.ba,rfl,(λh=>by cases h),∅,∅]
  ·exact#[.aD,rfl,λ_=>rfl,∅,∅]
 refine oE (c) λk hk a d e=>#[k,cC (dE rfl ∅) (bX (bX f rfl rfl) (bX rfl (aB b) rfl) ?_) (dP bA hk d (bw Fi rfl e)),a];rw[j4,if_pos (by(clear e d a hk c b;cases l)<;>(rw[Bool.or_eq_true];exact .inr ∅))];rfl
omit B in
def tb(d:cy L i=some (.ref ls))(c:s[ls]?=some (.af (Γ.map Ent.v)))(f:aj C a L s=.ok e.v s)(g:Γ.length<=100000):
  aj C (.ak .Add (.aa i) (.af {a})) L s=.ok (.ref (s++[O.af [e.v]]).length) (s++[.af [e.v]]++[.af ((Γ++[e]).map Ent.v)]):=by have b:(1000000:Nat)<=aJ:=aU _;refine bX (aB d) (dE (ax f a6) ∅) ((List.map_append)▸?_);exact add_lists (old c) bA (by rw[List.length_map];show Γ.length+1<=aJ;exact aM 0xd0613012412412481601da1f83053401c91f41e3 rfl g b)
abbrev Tw(G:Nat->Sc->Lv->Bool->Tm->Kd->Prop)(d:Nat)(a:Sc)(t:Tm):Prop:=∃y i b c,t=.aY y (.num i) (.ak .sum b c)/\G 0 (a++[#[y,.o,.val .aD]]) .o false b .aD/\G d (a++[#[y,.o,.val .aD]]) .o false c .aD
abbrev oD(G:Nat->Sc->Lv->Bool->Tm->Kd->Prop)(P:Prog)(sc:List Int)(d:Nat):Prop:=∀(n:Nat),3*d+8<=n->∀(a:Sc)(l:Lv)(k:Kd)(f:Bool)(st ls:Nat)(U:H),St st U->U[ls]?=some (.af (a.map Ent.v))->(∀e∈a,e.Ok)->a.length+3*d<=1000->(l=.o->k=.aD)->
 ∃t b,av P sc n 33 [.cF,.ref st,.int l.i,.str k.s,.ref ls,.int d,.bool f] U=.ok t.ag b/\G d a l f t k/\bx st U b
omit B in
def p9{a:Sc}(h:∀e∈a,e.Ok)(b:e.Ok):∀e'∈a++[e],e'.Ok:=λe' c=>by
 rcases List.mem_append.mp c with q|q
 ·exact h e' q
 ·(refine(List.mem_singleton.mp q)▸?_);exact b
end
section
variable{C:Ctx}{L L1:aP}{U ae ao b9:H}{a b:E}{x y r:V}
def RV(c:aj C a L U=.ok x ae)(d:aj C b L ae=.ok y ao)(e:xo x y ao=.ok r b9):aj C (.max2 a b) L U=.ok r b9:=by(refine M9▸?_;refine(aN c)▸?_;refine(aN d)▸?_;refine e▸?_;with_reducible rfl)
def zV{i d c:Nat}(e:cy L i=some (.int d))(f:1<=c):aj C (.max2 (.int 0) (.ak .Sub (.aa i) (.int c))) L U=.ok (.int ((d-c:Nat):Int)) U:=by
 refine RV rfl (bX (aB e) rfl rfl) (congrArg (λi=>Res.ok (V.int i) U) ?_);rcases Nat.lt_or_ge c d with h|h
 ·exact(if_pos (Int.sub_pos_of_lt (Int.ofNat_lt.mpr h))).trans (Int.ofNat_sub (Nat.le_of_lt h)).symm
 ·exact(if_neg (λq=>Nat.not_lt.mpr h (Int.ofNat_lt.mp (Int.lt_of_sub_pos q)))).trans (congrArg Int.ofNat (Nat.sub_eq_zero_of_le h)).symm
def Qg(c:aj C a L U=.ok (.ref l) ae)(d:ae[l]?=some (.af vs))(e:Qh.N.gm is vs L ae=.ok Unit.unit L1 ae):cT C (.ik is a) L U=.ok .next L1 ae:=by simp only[FD,Qh.N.bind,Qh.N.lift,c,d8 d,e,Qh.N.pure]
end
section
variable{P:Prog}{sc:List Int}
structure so(P:Prog)(G:Nat->Sc->Lv->Bool->Tm->Kd->Prop):Prop extends Base P where
 yk:P.fns 30=some sS
 JI:P.fns 31=some vt
 f32:P.fns 32=some yB
 JJ:P.fns 33=some vv
 JK:P.fns 34=some yC
 JL:P.fns 35=some vf
 gr:Gr G
variable{G:Nat->Sc->Lv->Bool->Tm->Kd->Prop}(B:so P G)(hs:sc.length<=63)
include B hs
def zW(e:cy L 0=some .cF)(f:i0=.int a)(g:i1=.int b)(h:i2=.int c)(j:i3=.int d)(k:∀s,aj (cx P sc (n+3)) q L s=.ok (.int num) s):
  ∃x τ,aj (cx P sc (n+3)) (.call 7 {.aa 0,.aq (.af {i0,i1,i2,i3}) (.ak .Mod q (.int 4))}) L s=.ok (.str x) (s++τ)/\V.ca (.str x)=true:=by subst f g h j;refine bB λt l=>aQ (HN (C:=cx P sc (n+3)) (L:=L) (s:=s) (is:=[a,b,c,d]) (m:=4) (q:=q) (num:=num) (es:=.cons (.int a) {.int b,.int c,.int d}) rfl ∅ rfl ∅ (k _)) λi _ o=>bl (MG B.toBase (sc:=sc) (n:=n) (w:=i) hs (s++[.af ([a,b,c,d].map .int)])) λx τ p r=>l (#[x,[.af ([a,b,c,d].map .int)]++τ,?_,Lm r]);rw[←List.append_assoc];exact aT (aS e (ax o a6)) p
def LX(ih:oD G P sc d)(Z:3*d+8<=n)(j:St st U)(D:U[ls]?=some (.af (c.map Ent.v)))(F:∀e∈c,e.Ok)(cz:c.length+1+3*d<=1000):
  ∃t ah,av P sc (n+1) 34 [.cF,.ref st,.ref ls,.int d,.int num] U=.ok t.ag ah/\Tw G d c t/\bx st U ah:=by
 obtain⟨m,rfl⟩:∃m,n=m+3:=#[n-3,~~~cm (a7 iX rfl) (aM 0x3018c28cc201248049009049205301a04363 rfl Z)];rw[cI B.JK rfl]
 suffices h:aZ (cx P sc (m+3)) [some .cF,some (.ref st),some (.ref ls),some (.int d),some (.int num),none,none,none,none,none] st U yC.body (λt=>Tw G d c t) by
  exact gi (h) λt s' L' e kp I=>#[t,s',(congrArg cp e).trans rfl,I,kp]
 obtain⟨x,J,e1,fx⟩:=zW B hs (n:=m) (L:=[some .cF,some (.ref st),some (.ref ls),some (.int d),some (.int num),none,none,none,none,none]) (s:=U) (q:=.aa 4) (num:=num) rfl rfl rfl rfl rfl (λ_=>aB rfl);refine aZ.aK e1 (bx.add j) ?_;have k1:bx st U (U++J):=bx.add j;have xQ:=old (τ:=J) D;generalize U++J=s1 at k1 xQ;have V5:Ent.Ok #[x,.o,.val .aD]:=#[fx,λ_=>.inl rfl];refine aZ.aK (tb (e:=#[x,.o,.val .aD]) rfl xQ (cf (aS rfl (ax rfl (ax (cf (by rfl) ∅) a6))) ∅) (~~~aM 0x807687e0c049049205a07bc110d8c184c rfl cz)) ((bx.add k1.state).more) ?_;have a:=bA (U:=s1++[O.af [Ent.v #[x,.o,.val .aD]]]) (o:=.af ((c++[(#[x,.o,.val .aD]:Ent)]).map Ent.v));have k:bx st s1 (s1++[O.af [Ent.v #[x,.o,.val .aD]]]++[.af ((c++[(#[x,.o,.val .aD]:Ent)]).map Ent.v)]):=(bx.add k1.state).more;generalize (s1++[O.af [Ent.v #[x,.o,.val .aD]]]).length=lm at a;generalize s1++[O.af [Ent.v #[x,.o,.val .aD]]]++[.af ((c++[(#[x,.o,.val .aD]:Ent)]).map Ent.v)]=s2 at a k;have r:=p9 F V5;have u:(c++[(#[x,.o,.val .aD]:Ent)]).length+3*d<=1000:=by(refine(List.length_append)▸?_;refine(List.length_singleton)▸?_);assumption
 have hx:look (c++[(#[x,.o,.val .aD]:Ent)]) x=some #[x,.o,.val .aD]:=by rw[iD,beq_self_eq_true];rfl
 generalize JM:c++[(#[x,.o,.val .aD]:Ent)]=Δ at a r u hx;have JN:=mF k.state a;refine aQ (vE (sc:=sc) B.yk (n:=m+2) (l:=.z) (ks:=[.val .ba]) r (~~~aM zr rfl u) (old (τ:=[.af [(Mn.val .ba).ks]]) a) bA) λfB b1 w=>aZ.aK (aT (aS rfl (ax rfl (ax (dE (ax (cf (by rfl) ∅) a6) ∅) a6))) b1) ((bx.add k.state).more) ?_;have k3:bx st s2 (s2++[O.af [(Mn.val .ba).ks]]++fB):=(bx.add k.state).more;have hA:(s2++[O.af [(Mn.val .ba).ks]]).length≠st:=Nat.ne_of_gt (bx.add k.state).state.lt;generalize (s2++[O.af [(Mn.val .ba).ks]]).length=A at w hA;generalize s2++[O.af [(Mn.val .ba).ks]]++fB=K at w k3;refine aZ.aK (v:=(Tm.name x).ag) (s1:=K) (cf rfl ∅) (.refl k3.state) ?_;have p:∃one f,cT (cx P sc (m+3)) (.ite (.cmp .NotEq (.aa 7) (.af .nil)) {.aK 8 (.ay {.str "hole",.ay {.str "name",.aq (.aq (.aa 7) (.ak .Mod (.ak .FloorDiv (.aa 4) (.int 4)) (.len (.aa 7)))) (.int 0)}})} .nil) [some .cF,some (.ref st),some (.ref ls),some (.int d),some (.int num),some (.str x),some (.ref lm),some (.ref A),some (Tm.name x).ag,none] K=
   .ok .next [some .cF,some (.ref st),some (.ref ls),some (.int d),some (.int num),some (.str x),some (.ref lm),some (.ref A),some (Tm.ag one),none] f/\bx st K f/\G 0 Δ .o false one .aD:=by
  refine dk (dZ.full (C:=cx P sc (m+3)) (L:=[some .cF,some (.ref st),some (.ref ls),some (.int d),some (.int num),some (.str x),some (.ref lm),some (.ref A),some (Tm.name x).ag,none]) (i:=7) k3.state (λe Q=>r e (kO _ _ _ _ Q).2.2.1) rfl w) λb f y g q4=>?_;cases b with
  |false=>exact#[.name x,f,(pO y).trans eU,g,B.gr.name hx]
  |true=>
   refine bB λXx aH=>aQ (pick (C:=cx P sc (m+3)) (L:=[some .cF,some (.ref st),some (.ref ls),some (.int d),some (.int num),some (.str x),some (.ref lm),some (.ref A),some (Tm.name x).ag,none]) (i:=7) (q:=.ak .FloorDiv (.aa 4) (.int 4)) (q4 rfl) (bZ (ta _ _ _) (~~~aM zr rfl u)) rfl (g.get hA w) rfl) λe Q hp=>jL (kO _ _ _ _ Q) λI R _ h3=>aH ?_;have T:=xd h3;refine#[.un .hole (.name e.x),f,(jD y).trans ((bj (cf (ax rfl (ax (cf (ax rfl (ax hp a6)) ∅) a6)) ∅)).trans eU),g,B.gr.kB ?_];refine I▸?_;obtain⟨ex,el,em⟩:=e;have R:el=.z:=R;have T:em=.val .ba:=T;refine R▸T▸?_;with_reducible rfl
 refine dk (p) λone f y g X=>aZ.step y g (dk (ih (m+3) Z Δ .o .aD false st lm f g.state (g.get JN (k3.get JN a)) r u (λ_=>rfl)) λt s5 e5 Y k5=>aZ.aK (aT rfl e5) k5 (aZ.ret (cf (ax rfl (aS rfl (ax (cf (ax rfl (ax (bX (bX (aB rfl) rfl rfl) rfl rfl) a6)) ∅) (ax (cf rfl ∅) a6)))) ∅) (.refl k5.state) #[x,_,one,t,rfl,?_,?_]))
 ·(refine JM▸?_);exact X
 ·(refine JM▸?_);exact Y
end
abbrev eS(st lw ls:Nat)(d:Nat)(num:Int)(x f a b c yb e:Option V)(w:Wd)(l:Lv)(k:Kd)(fr:Bool)(one many g:Option V):aP:=
 [some .cF,some (.ref st),some (.ref lw),some (.ref ls),some (.int d),some (.int num),x,f,a,b,c,yb,e,some (wv w),some (.int l.i),some (.str k.s),some (.bool fr),one,many,g]
abbrev uH:SL:=match vf.body with
|.cons _ (.cons _ (.cons _ (.cons _ (.cons _ r))))=>r
|_=>.nil
abbrev UQ:SL:=match uH with
|.cons _ (.cons _ (.cons _ r))=>r
|_=>.nil
section
variable{P:Prog}{sc:List Int}{G:Nat->Sc->Lv->Bool->Tm->Kd->Prop}(B:so P G)(hs:sc.length<=63)
include B hs
def LY(g:cy L i=some (.ref ls))(d:s[ls]?=some (.af (Γ.map Ent.v)))(h:aj C a L s=.ok e.v s)(f:aj C b L s=.ok e'.v s)(j:Γ.length<=100000):
  aj C (.ak .Add (.aa i) (.af {a,b})) L s=.ok (.ref (s++[O.af [e.v,e'.v]]).length) (s++[.af [e.v,e'.v]]++[.af ((Γ++[e]++[e']).map Ent.v)]):=by have c:(1000000:Nat)<=aJ:=aU _;refine bX (aB g) (dE (ax h (ax f a6)) ∅) ?_;rw[show(Γ++[e]++[e']).map Ent.v=Γ.map Ent.v++[e.v,e'.v] by simp];exact add_lists (old d) bA (by rw[List.length_map];show Γ.length+2<=aJ;exact aM 0xd0623012412412481601da1f83053401c91f41e3 rfl j c)
def MO(L:∀d'≤d,oD G P sc d')(Q:3*d+9<=n+3)(g:St st s)(p:s[ls]?=some (.af (a.map Ent.v)))(u:∀e∈a,e.Ok)(J:a.length+3+3*d<=1000)(fx:V.ca (.str x)=true)(ff:V.ca (.str f)=true):
  aZ (cx P sc (n+3)) (eS st lw ls d num (some (.str x)) (some (.str f)) (some gT) none none none none .kept .o .aD fr none none none) st s uH (λt=>G (d+1) a .o fr t .aD):=by
 have w:=mF g p;refine aZ.take (s1:=s) ⋯ (.refl g) (fD (CV B.toBase (sc:=sc) (n:=n+2) (x:=num.fdiv 18) s) λi X e0=>aZ.aK (v:=(Tm.num i).ag) (cf (ax rfl (ax (aT (ax (bX (r:=.int (num.fdiv 18)) (aB rfl) rfl rfl) a6) e0) a6)) ∅) (bx.add g) ?_);have K:bx st s (s++X):=bx.add g;generalize s++X=m at K;have Y:=K.get w p;have A:∃one s1,cT (cx P sc (n+3)) (.ite (.cmp .Eq (.ak .Mod (.ak .FloorDiv (.aa 5) (.int 16)) (.int 2)) (.int 0)) {.aK 17 (.call 33 {.aa 0,.aa 1,.int 1,.str "number",.aa 3,.max2 (.int 0) (.ak .Sub (.aa 4) (.int 1)),.bool false})} .nil) (eS st lw ls d num (some (.str x)) (some (.str f)) (some gT) none none none none .kept .o .aD fr (some (Tm.num i).ag) none none) m=
   .ok .next (eS st lw ls d num (some (.str x)) (some (.str f)) (some gT) none none none none .kept .o .aD fr (some (Tm.ag one)) none none) s1/\bx st m s1/\G (d-1) a .o false one .aD:=by
  have j:bQ (cx P sc (n+3)) (.cmp .Eq (.ak .Mod (.ak .FloorDiv (.aa 5) (.int 16)) (.int 2)) (.int 0)) (eS st lw ls d num (some (.str x)) (some (.str f)) (some gT) none none none none .kept .o .aD fr (some (Tm.num i).ag) none none) m=.ok ((num.fdiv 16).fmod 2==0) m:=rfl;cases hb:((num.fdiv 16).fmod 2==0) with
  |false=>rw[hb] at j;exact#[.num i,m,(pO j).trans eU,.refl K.state,B.gr.num]
  |true=>
   rw[hb] at j;exact dk (L (d-1) (Nat.sub_le _ _) (n+3) (~~~aM Fo rfl Q) a .o .aD false st ls m K.state Y u (~~~aM 0xa07bc110284d8cc201240241248049009049205a07bc110d8c18cc rfl J) (λ_=>rfl)) λt s1 R C k1=>#[t,s1,(jD j).trans ((bj (aT (aS rfl (aS rfl (ax rfl (ax rfl (aS rfl (ax (zV (d:=d) (c:=1) rfl (aU _)) (by rfl))))))) R)).trans eU),k1,C]
 obtain⟨one,s1,R,k1,D⟩:=A;refine aZ.step R k1 (aZ.aK (LY B hs (e:=#[x,.o,.val .aD]) (e':=#[f,.z,.val .ba]) rfl (k1.get w Y) (cf (aS rfl (ax rfl (ax (cf (by rfl) ∅) a6))) ∅) (cf (aS rfl (ax rfl (ax (cf (by rfl) ∅) a6))) ∅) (~~~aM pP rfl J)) ((bx.add k1.state).more) ?_);have k:=bA (U:=s1++[O.af [Ent.v #[x,.o,.val .aD],Ent.v #[f,.z,.val .ba]]]) (o:=.af ((a++[(#[x,.o,.val .aD]:Ent)]++[(#[f,.z,.val .ba]:Ent)]).map Ent.v));have T:bx st s1 (s1++[O.af [Ent.v #[x,.o,.val .aD],Ent.v #[f,.z,.val .ba]]]++[.af ((a++[(#[x,.o,.val .aD]:Ent)]++[(#[f,.z,.val .ba]:Ent)]).map Ent.v)]):=(bx.add k1.state).more;generalize (s1++[O.af [Ent.v #[x,.o,.val .aD],Ent.v #[f,.z,.val .ba]]]).length=lm at k;generalize s1++[O.af [Ent.v #[x,.o,.val .aD],Ent.v #[f,.z,.val .ba]]]++[.af ((a++[(#[x,.o,.val .aD]:Ent)]++[(#[f,.z,.val .ba]:Ent)]).map Ent.v)]=s2 at k T;have Z:∀e∈a++[(#[x,.o,.val .aD]:Ent)]++[(#[f,.z,.val .ba]:Ent)],e.Ok:=p9 (p9 u #[fx,λ_=>.inl rfl]) #[ff,λh=>by cases h];have qB:(a++[(#[x,.o,.val .aD]:Ent)]++[(#[f,.z,.val .ba]:Ent)]).length=a.length+2:=by rw[List.length_append,List.length_append];rfl
 have UR:∃F l,cT (cx P sc (n+3)) (.ite (.cmp .Eq (.ak .Mod (.ak .FloorDiv (.aa 5) (.int 5000)) (.int 2)) (.int 0)) {.aK 19 (.call 34 {.aa 0,.aa 1,.aa 12,.max2 (.int 0) (.ak .Sub (.aa 4) (.int 2)),.ak .FloorDiv (.aa 5) (.int 10000)})} {.aK 19 (.call 33 {.aa 0,.aa 1,.int 1,.str "number",.aa 12,.max2 (.int 0) (.ak .Sub (.aa 4) (.int 1)),.bool false})}) (eS st lw ls d num (some (.str x)) (some (.str f)) (some gT) none none none (some (.ref lm)) .kept .o .aD fr (some (Tm.ag one)) none none) s2=
   .ok .next (eS st lw ls d num (some (.str x)) (some (.str f)) (some gT) none none none (some (.ref lm)) .kept .o .aD fr (some (Tm.ag one)) none (some (Tm.ag F))) l/\bx st s2 l/\(G (d-1) (a++[#[x,.o,.val .aD]]++[#[f,.z,.val .ba]]) .o false F .aD∨Tw G (d-2) (a++[#[x,.o,.val .aD]]++[#[f,.z,.val .ba]]) F):=by
  have j:bQ (cx P sc (n+3)) (.cmp .Eq (.ak .Mod (.ak .FloorDiv (.aa 5) (.int 5000)) (.int 2)) (.int 0)) (eS st lw ls d num (some (.str x)) (some (.str f)) (some gT) none none none (some (.ref lm)) .kept .o .aD fr (some (Tm.ag one)) none none) s2=.ok ((num.fdiv 5000).fmod 2==0) s2:=rfl;cases hb:((num.fdiv 5000).fmod 2==0) with
  |false=>
   rw[hb] at j;obtain⟨t,l,I,C,k3⟩:=L (d-1) (Nat.sub_le _ _) (n+3) (~~~aM Fo rfl Q) _ .o .aD false st lm s2 T.state k Z (~~~bD 0x281ef0440a13633080490090090490492012402402412412481681ef04436306338606238c rfl J qB) (λ_=>rfl);exact#[t,l,(pO j).trans ((bj (aT (aS rfl (aS rfl (ax rfl (ax rfl (aS rfl (ax (zV (d:=d) (c:=1) rfl (aU _)) (by rfl))))))) I)).trans eU),k3,.inl C]
  |true=>
   rw[hb] at j;obtain⟨t,l,I,C,k3⟩:=LX B hs (n:=n+2) (num:=num.fdiv 10000) (L (d-2) (Nat.sub_le _ _)) (aM 0x62341a040a2323201240241248049009049205063341a44323 rfl Q) T.state k Z (bD 0x281ef0440a23630613080490090090490492012402402412412481681ef04436306338606238c rfl J qB);exact#[t,l,(jD j).trans ((bj (aT (aS rfl (aS rfl (aS rfl (ax (zV rfl ∅) (ax (bX (aB rfl) rfl rfl) a6))))) I)).trans eU),k3,.inr C]
 refine dk (UR) λF l I k3 x9=>aZ.step I k3 (aZ.ret (t:=.aY x one (.un .hole (.aY f (.un .bK (.name x)) (.un .bK F)))) (s1:=l) (cf (ax rfl (aS rfl (aS rfl (ax (cf (ax rfl (ax (cf (ax rfl (aS rfl (ax (cf (ax rfl (ax (cf (by rfl) ∅) a6)) ∅) (ax (cf rfl ∅) a6)))) ∅) a6)) ∅) a6)))) ∅) (.refl k3.state) ?_);rcases x9 with q|⟨y,i,b,c,rfl,q1,q2⟩
 ·exact B.gr.kept D q
 ·exact B.gr.twice D q1 q2
end
section
variable{P:Prog}{sc:List Int}{G:Nat->Sc->Lv->Bool->Tm->Kd->Prop}(B:so P G)(hs:sc.length<=63)
include B hs
def Aj{l:Lv}{x:Str}{a:Kd}(b:V.ca (.str x)=true)(h:l=.o->a=.aD):Ent.Ok #[x,l,.val a]:=#[b,λq=>.inl (by(refine(h q)▸?_;with_reducible rfl))]
def MP{d n st lw ls:Nat}{c:Sc}{fr:Bool}{l:Lv}{k g:Kd}{num:Int}{x f:Str}{s:H}(p:oD G P sc d)(q:3*d+8<=n)(a:St st s)(b:s[ls]?=some (.af (c.map Ent.v)))(h:∀e∈c,e.Ok)(j:c.length+3+3*d<=1000)(w:V.ca (.str x)=true)(m:l=.o->k=.aD)(i:l=.o->g=.aD):
  aZ (cx P sc n) (eS st lw ls d num (some (.str x)) (some (.str f)) (some (.str g.s)) none none none none .aY l k fr none none none) st s uH (λt=>G (d+1) c l fr t k):=by refine aZ.skip ⋯ (.refl a) (aZ.take ⋯ (.refl a) ?_);refine dk (p n q c l g fr st ls s a b h (aM jI rfl j) i) λt r y z k1=>aZ.aK (aT rfl y) k1 ?_;have u:bx st r (r++[O.af [Ent.v #[x,l,.val g]]]++[.af ((c++[(#[x,l,.val g]:Ent)]).map Ent.v)]):=(bx.add k1.state).more;refine dk (p n q _ l k fr st _ _ u.state (bA) (p9 h (Aj B hs w i)) (by(refine(List.length_append)▸?_;refine(List.length_singleton)▸?_);exact aM wc rfl j) m) λD F A C k3=>aZ.ret (cf (ax rfl (aS rfl (aS rfl (ax (aT (aS rfl (aS rfl (aS rfl (aS rfl (ax (tb rfl (k1.get (mF a b) b) (cf (aS rfl (aS rfl (ax (cf rfl ∅) a6))) ∅) (aM pP rfl j)) rfl))))) A) a6)))) ∅) (u.trans k3) (B.gr.aY z C)
def Lo{d n st lw ls:Nat}{h:Sc}{fr:Bool}{l:Lv}{k:Kd}{num:Int}{r:V}{x f:Str}{s:H}(K:oD G P sc d)(Q:3*d+8<=n)(c:St st s)(u:s[ls]?=some (.af (h.map Ent.v)))(w:∀e∈h,e.Ok)(F:h.length+3+3*d<=1000)(X:V.ca (.str x)=true)(g:l=.o->k=.aD):
  aZ (cx P sc n) (eS st lw ls d num (some (.str x)) (some (.str f)) (some r) none none none none .bg l k fr none none none) st s uH (λt=>G (d+1) h l fr t k):=by
 have y:=mF c u;refine aZ.skip ⋯ (.refl c) (aZ.skip ⋯ (.refl c) (aZ.take ⋯ (.refl c) ?_));refine aQ (HN (C:=cx P sc n) (L:=eS st lw ls d num (some (.str x)) (some (.str f)) (some r) none none none none .bg l k fr none none none) (s:=s) (is:=[0,1,2,3,2,3,1,9]) (m:=8) (q:=.ak .FloorDiv (.aa 5) (.int 18)) (num:=num.fdiv 18) (es:=.cons (.int 0) {.int 1,.int 2,.int 3,.int 2,.int 3,.int 1,.int 9}) rfl ∅ rfl ∅ rfl) λj Y Z=>?_;have I:∀i∈([0,1,2,3,2,3,1,9]:List Int),0<=i/\i<=9:=by decide
 refine aZ.aK Z (bx.add c) ?_;have A:bx st s (s++[.af ([0,1,2,3,2,3,1,9].map .int)]):=bx.add c;generalize s++[.af ([0,1,2,3,2,3,1,9].map .int)]=z at A;have R:=A.get y u;have TM:∃D:Int,(0<=D/\D<=9)/\cT (cx P sc n) (.ite (.cmp .Gt (.aa 4) (.int 1)) {.aK 18 (.ak .Mod (.aa 18) (.int 4))} .nil) (eS st lw ls d num (some (.str x)) (some (.str f)) (some r) none none none none .bg l k fr none (some (.int j)) none) z=
   .ok .next (eS st lw ls d num (some (.str x)) (some (.str f)) (some r) none none none none .bg l k fr none (some (.int D)) none) z:=by
  have p:bQ (cx P sc n) (.cmp .Gt (.aa 4) (.int 1)) (eS st lw ls d num (some (.str x)) (some (.str f)) (some r) none none none none .bg l k fr none (some (.int j)) none) z=.ok (decide ((1:Int)<d)) z:=rfl;cases hb:decide ((1:Int)<d) with
  |false=>(replace p:=hb▸p);exact#[j,(I j Y),(pO p).trans eU]
  |true=>(replace p:=hb▸p);exact#[j.fmod 4,(by have:=kW (P:=P) B.toBase (a:=j) (b:=4) ∅;exact#[bw iF rfl this.1,bw 0xa4c04904920590184c rfl this.2]),(jD p).trans ((bj (v:=.int (j.fmod 4)) rfl).trans eU)]
 refine aQ (TM) λD V9 J=>aZ.step J (.refl A.state) (dk (K n Q h l k fr st ls z A.state R w (aM jI rfl F) g) λt T e1 h1 k1=>aZ.aK (aT rfl e1) k1 ?_);have U:bx st T (T++[O.af [Ent.v #[x,l,.val k]]]++[.af ((h++[(#[x,l,.val k]:Ent)]).map Ent.v)]):=(bx.add k1.state).more;refine aZ.aK (tb rfl (k1.get y R) (cf (aS rfl (aS rfl (ax (cf rfl ∅) a6))) ∅) (aM pP rfl F)) U ?_;refine dk (K n Q _ l k fr st _ _ U.state (bA) (p9 w (Aj B hs X g)) (by(refine(List.length_append)▸?_;refine(List.length_singleton)▸?_);exact aM wc rfl F) g) λt2 s3 e3 h3 k3=>aZ.ret (cf (ax rfl (aS rfl (aS rfl (aS rfl (ax (aT rfl e3) a6))))) ∅) k3 (B.gr.bg V9 h1 h3)
def D4{d n st lw ls:Nat}{m:Sc}{fr:Bool}{w:Wd}{l:Lv}{k g:Kd}{num:Int}{x f:Str}{s:H}(R:w=.use∨w=.def_)(T:oD G P sc d)(X:3*d+8<=n+1)(c:St st s)(u:s[ls]?=some (.af (m.map Ent.v)))(j:∀e∈m,e.Ok)(y:m.length+3+3*d<=1000)(fx:V.ca (.str x)=true)(ff:V.ca (.str f)=true)(Y:l=.o->k=.aD)(z:l=.o->g=.aD):
  aZ (cx P sc (n+1)) (eS st lw ls d num (some (.str x)) (some (.str f)) (some (.str g.s)) none none none none w l k fr none none none) st s uH (λt=>G (d+1) m l fr t k):=by
 have p:=mF c u
 let D:=cx P sc (n+1)
 let Wa:Tm->Prop:=λt=>G (d+1) m l fr t k
 suffices h:aZ D (eS st lw ls d num (some (.str x)) (some (.str f)) (some (.str g.s)) none none none none w l k fr none none none) st s UQ Wa by
  rcases R with rfl|rfl<;>exact aZ.skip (s1:=s) ⋯ (.refl c) (aZ.skip (s1:=s) ⋯ (.refl c) (aZ.skip (s1:=s) ⋯ (.refl c) h))
 refine aQ (vE (sc:=sc) B.yk (n:=n) (l:=l) (ks:=[.fn .aD k,.fn .ba k]) j (~~~aM pP rfl y) (old (τ:=[.af [(Mn.fn .aD k).ks,(Mn.fn .ba k).ks]]) u) bA) λlQ b1 J=>aZ.aK (aT (aS rfl (aS rfl (ax (dE (vs:=[(Mn.fn .aD k).ks,(Mn.fn .ba k).ks]) (ax (cf (by rfl) ∅) (ax (cf (by rfl) ∅) a6)) ∅) a6))) b1) ((bx.add c).more) ?_;have Z:bx st s (s++[O.af [(Mn.fn .aD k).ks,(Mn.fn .ba k).ks]]++lQ):=(bx.add c).more;have hA:(s++[O.af [(Mn.fn .aD k).ks,(Mn.fn .ba k).ks]]).length≠st:=Nat.ne_of_gt (bx.add c).state.lt;generalize (s++[O.af [(Mn.fn .aD k).ks,(Mn.fn .ba k).ks]]).length=A at J hA;generalize s++[O.af [(Mn.fn .aD k).ks,(Mn.fn .ba k).ks]]++lQ=s0 at J Z;have oW:=Z.get p u;show aZ D (eS st lw ls d num (some (.str x)) (some (.str f)) (some (.str g.s)) (some (.ref A)) none none none w l k fr none none none) st s0 _ _;refine aZ.ite (Q:=w=.use/\f9 l [.fn .aD k,.fn .ba k] m≠[]) ?_ (λs1 k1 hQ=>?_) (λs1 k1=>?_)
 ·refine dk (dZ.aV (C:=D) (L:=eS st lw ls d num (some (.str x)) (some (.str f)) (some (.str g.s)) (some (.ref A)) none none none w l k fr none none none) (a:=.cmp .Eq (.aa 13) (.str "use")) (b:=.cmp .NotEq (.aa 9) (.af .nil)) (dZ.pure (b:=(w.s==("use":Str))) Z.state rfl) (λs1 q1=>dZ.full q1.state (λe he=>j e (kO _ _ _ _ he).2.2.1) rfl (q1.get hA J))) λb s' e kp q=>#[b,s',e,kp,λh=>#[?_,(q h).2]];rcases R with rfl|rfl
  ·rfl
  ·exact absurd (q h).1 (by decide+kernel)
 ·refine aX (hQ) λcM hF=>?_;clear hQ R;subst cM;obtain⟨e,he,hp⟩:=HM (C:=D) (L:=eS st lw ls d num (some (.str x)) (some (.str f)) (some (.str g.s)) (some (.ref A)) none none none .use l k fr none none none) (i:=9) (q:=.ak .FloorDiv (.aa 5) (.int 18)) hF (bZ (ta l [.fn .aD k,.fn .ba k] m) (show m.length<=100000 by exact aM pP rfl y)) rfl (k1.get hA J) rfl;refine jL (kO _ _ _ _ he) λh1 h2 F h3=>?_;obtain⟨ka,hka⟩:=TJ h3;obtain⟨ex,el,em⟩:=e;have h2:el=l:=h2;subst h2 (hka);have hao:el=.o->ka=.aD:=λq=>by
   rcases (j _ F).2 q with r|r
   ·cases r
   ·cases r;rfl
  refine aZ.aK hp (.refl k1.state) (dk (T (n+1) X m el ka fr st ls s1 k1.state (k1.get p oW) j (~~~aM jI rfl y) hao) λt K e2 h4 I=>aZ.ret (cf (ax rfl (ax rfl (ax (aT (aS rfl (aS rfl (aS rfl (ax rfl rfl)))) e2) a6))) ∅) I (B.gr.use h1 h4))
 ·have xQ:=k1.get p oW;refine aQ (F4 (C:=D) (L:=eS st lw ls d num (some (.str x)) (some (.str f)) (some (.str g.s)) (some (.ref A)) none none none w l k fr none none none) (s:=s1) (l:=l) (i:=14) (q:=.ak .FloorDiv (.aa 5) (.int 18)) (num:=num.fdiv 18) rfl rfl) λkw hkw uW=>aZ.aK hkw (bx.add k1.state) ?_;have I:bx st s1 (s1++[.af [.str Kd.aD.s,.str Kd.ba.s]]):=bx.add k1.state;generalize s1++[.af [.str Kd.aD.s,.str Kd.ba.s]]=K at I;have uI:=I.get p xQ;have Wb:=bA (U:=K++[O.af [Ent.v #[x,l,.val g]]]) (o:=.af ((m++[(#[x,l,.val g]:Ent)]).map Ent.v));have k3:bx st K (K++[O.af [Ent.v #[x,l,.val g]]]++[.af ((m++[(#[x,l,.val g]:Ent)]).map Ent.v)]):=(bx.add I.state).more;refine dk (T (n+1) X _ l kw false st _ _ k3.state Wb (p9 j (Aj B hs fx z)) (by(refine(List.length_append)▸?_;refine(List.length_singleton)▸?_);exact aM wc rfl y) uW) λt s4 e4 h4 k4=>aZ.aK (aT (aS rfl (aS rfl (aS rfl (aS rfl (ax (tb rfl uI (cf (aS rfl (aS rfl (ax (cf rfl ∅) a6))) ∅) (aM pP rfl y)) rfl))))) e4) (k3.trans k4) ?_;have k5:bx st s4 (s4++[O.af [Ent.v #[f,l,.fn g kw]]]++[.af ((m++[(#[f,l,.fn g kw]:Ent)]).map Ent.v)]):=(bx.add k4.state).more;refine aZ.aK (tb rfl ((k3.trans k4).get p uI) (cf (aS rfl (aS rfl (ax (cf rfl ∅) a6))) ∅) (aM pP rfl y)) k5 ?_;refine dk (T (n+1) X _ l k fr st _ _ k5.state (bA) (p9 j #[ff,λq=>.inr (by(refine(z q).symm▸?_;refine(uW q)▸?_;with_reducible rfl))]) (by(refine(List.length_append)▸?_;refine(List.length_singleton)▸?_);exact aM wc rfl y) Y) λt2 s6 e6 h6 k6=>aZ.ret (cf (ax rfl (aS rfl (aS rfl (aS rfl (aS rfl (ax (aT rfl e6) a6)))))) ∅) k6 (B.gr.def_ (λq=>#[z q,uW q]) h4 h6)
end
section
variable{P:Prog}{sc:List Int}{G:Nat->Sc->Lv->Bool->Tm->Kd->Prop}(B:so P G)(hs:sc.length<=63)
include B hs
def LZ(Q:w=.aY∨w=.bg∨w=.def_∨w=.use∨(w=.kept/\l=.o/\k=.aD))(p:∀R≤d,oD G P sc R)(j:3*d+9<=n)(b:St st s)(T:s[lw]?=some (.af [wv w,.int l.i,.str k.s,.bool fr]))(r:s[ls]?=some (.af (A.map Ent.v)))(a:∀e∈A,e.Ok)(u:A.length+3+3*d<=1000)(c:l=.o->k=.aD):
  ∃t I,av P sc (n+1) 35 [.cF,.ref st,.ref lw,.ref ls,.int d,.int num] s=.ok t.ag I/\G (d+1) A l fr t k/\bx st s I:=by
 obtain⟨m,rfl⟩:∃m,n=m+3:=#[n-3,~~~cm (a7 iX rfl) (aM 0x3018c28cc201248049009049205301a44363 rfl j)];rw[cI B.JL rfl]
 suffices h:aZ (cx P sc (m+3)) [some .cF,some (.ref st),some (.ref lw),some (.ref ls),some (.int d),some (.int num),none,none,none,none,none,none,none,none,none,none,none,none,none,none] st s vf.body (λt=>G (d+1) A l fr t k) by
  exact gi (h) λt s' L' e U X=>#[t,s',(congrArg cp e).trans rfl,X,U]
 refine aZ.step (L1:=eS st lw ls d num none none none none none none none w l k fr none none none) (Qg (aB rfl) T rfl) (.refl b) ?_;obtain⟨x,J,Y,y⟩:=zW B hs (n:=m) (L:=eS st lw ls d num none none none none none none none w l k fr none none none) (s:=s) (q:=.aa 5) (num:=num) rfl rfl rfl rfl rfl (λ_=>aB rfl);refine aZ.aK Y (bx.add b) ?_;have k1:bx st s (s++J):=bx.add b;generalize s++J=s1 at k1;obtain⟨f,K,Z,ff⟩:=zW B hs (n:=m) (L:=eS st lw ls d num (some (.str x)) none none none none none none w l k fr none none none) (s:=s1) (q:=.ak .FloorDiv (.aa 5) (.int 4)) (num:=num.fdiv 4) rfl rfl rfl rfl rfl (λ_=>rfl);refine aZ.aK Z (bx.add k1.state) ?_;have D:bx st s1 (s1++K):=bx.add k1.state;generalize s1++K=s2 at D;refine aQ (F4 (C:=cx P sc (m+3)) (L:=eS st lw ls d num (some (.str x)) (some (.str f)) none none none none none w l k fr none none none) (s:=s2) (l:=l) (i:=14) (q:=.ak .FloorDiv (.aa 5) (.int 16)) (num:=num.fdiv 16) rfl rfl) λko F g=>aZ.aK F (bx.add D.state) ?_;have k3:bx st s2 (s2++[.af [.str Kd.aD.s,.str Kd.ba.s]]):=bx.add D.state;generalize s2++[.af [.str Kd.aD.s,.str Kd.ba.s]]=s3 at k3;have z:=((k1.trans D).trans k3).get (mF b r) r;refine aZ.aK rfl (.refl k3.state) ?_;rcases Q with rfl|rfl|rfl|rfl|⟨rfl,rfl,rfl⟩
 ·exact MP B hs (p d (aU _)) (aM Fp rfl j) k3.state z a u y c g
 ·exact Lo B hs (p d (aU _)) (aM Fp rfl j) k3.state z a u y c
 ·exact D4 B hs (.inr rfl) (p d (aU _)) (aM Fq rfl j) k3.state z a u y ff c g
 ·exact D4 B hs (.inl rfl) (p d (aU _)) (aM Fq rfl j) k3.state z a u y ff c g
 ·exact MO B hs p (aM 0x63341a44323049049205063341a44323 rfl j) k3.state z a u y ff
abbrev sq(st ls:Nat)(l:Lv)(k:Kd)(d:Nat)(fr:Bool)(num:Int)(a:Option V)(w:Option V)(one b:Option V):aP:=
 [some .cF,some (.ref st),some (.int l.i),some (.str k.s),some (.ref ls),some (.int d),some (.bool fr),some (.int num),a,w,one,b]
abbrev IX:SL:=match vv.body with
|.cons _ (.cons _ (.cons _ (.cons _ (.cons _ (.cons _ r)))))=>r
|_=>.nil
def kX(a:cy L i=some (.int ((d+1:Nat):Int))):aj C (.ak .Sub (.aa i) (.int 1)) L s=.ok (.int (d:Int)) s:=by exact bX (aB a) rfl (congrArg (λi=>Res.ok (V.int i) s) (Int.add_sub_cancel (d:Int) 1))
def L0(y:w.fits l k fr)(J:∀K≤d,oD G P sc K)(j:3*d+10<=n)(a:St st s)(b:s[ls]?=some (.af (f.map Ent.v)))(c:∀e∈f,e.Ok)(x:f.length+3+3*d<=1000)(p:l=.o->k=.aD):
  aZ (cx P sc n) (sq st ls l k (d+1) fr num ws (some (wv w)) none none) st s IX (λt=>G (d+1) f l fr t k):=by
 have A:=mF a b;have T:=J d (aU _);have q:(w=.aY∨w=.bg∨w=.def_∨w=.use∨(w=.kept/\l=.o/\k=.aD))->bQ (cx P sc n) (.cmp .In (.aa 9) (.ay {.str "let",.str "turns",.str "def",.str "use",.str "kept"})) (sq st ls l k (d+1) fr num ws (some (wv w)) none none) s=.ok true s->
   aZ (cx P sc n) (sq st ls l k (d+1) fr num ws (some (wv w)) none none) st s IX (λt=>G (d+1) f l fr t k):=λg L=>by
  obtain⟨m,rfl⟩:∃m,n=m+1:=#[n-1,~~~cm (a7 iW rfl) (aM 0x30184284c201248049009049205301a84363 rfl j)];exact aZ.take L (.refl a) (dk (LZ B hs (n:=m) (lw:=s.length) (num:=num) g J (~~~aM 0x341a44323049049205061341a84323 rfl j) (bx.add (τ:=[.af [wv w,.int l.i,.str k.s,.bool fr]]) a).state bA (old b) c x p) λt I D F C=>aZ.ret (aT (aS rfl (aS rfl (ax (dE (by rfl) ∅) (aS rfl (ax (kX B hs rfl) (by rfl)))))) D) ((bx.add a).trans C) F)
 cases w with
|aY=>exact q (.inl rfl) ⋯
|bg=>exact q (.inr (.inl rfl)) ⋯
|def_=>exact q (.inr (.inr (.inl rfl))) ⋯
|use=>exact q (.inr (.inr (.inr (.inl rfl)))) ⋯
|kept=>exact q (.inr (.inr (.inr (.inr #[rfl,y.1,y.2])))) ⋯
|bK=>
  obtain rfl:k=.ba:=y;obtain rfl:=B5 p;refine aZ.skip (s1:=s) ⋯ (.refl a) (aZ.take (s1:=s) ⋯ (.refl a) ?_);exact dk (T n (~~~aM mu rfl j) f .o .aD false st ls s a b c (~~~aM jI rfl x) (λ_=>rfl)) λt s1 r g k1=>aZ.ret (t:=.un .bK t) (cf (ax rfl (ax (aT (aS rfl (aS rfl (ax rfl (ax rfl (aS rfl (ax (kX B hs rfl) (by rfl))))))) r) a6)) ∅) k1 (B.gr.bK g)
|hole=>
  obtain⟨rfl,rfl⟩:=y;refine aZ.skip (s1:=s) ⋯ (.refl a) (aZ.skip (s1:=s) ⋯ (.refl a) (aZ.take (s1:=s) ⋯ (.refl a) ?_));exact dk (T n (aM mu rfl j) f .z .ba false st ls s a b c (aM jI rfl x) (λh=>by cases h)) λt s1 r g k1=>aZ.ret (cf (ax rfl (ax (aT (aS rfl (aS rfl (ax rfl (ax rfl (aS rfl (ax (kX B hs rfl) rfl)))))) r) a6)) ∅) k1 (B.gr.hole g)
|lift=>
  obtain rfl:k=.ba:=y;obtain rfl:=B5 p;refine aZ.skip ⋯ (.refl a) (aZ.skip ⋯ (.refl a) (aZ.skip ⋯ (.refl a) (aZ.take ⋯ (.refl a) ?_)));exact dk (T n (aM mu rfl j) f .z .aD fr st ls s a b c (aM jI rfl x) (λ_=>rfl)) λt s1 r g k1=>aZ.ret (cf (ax rfl (ax (aT (aS rfl (aS rfl (ax rfl (ax rfl (aS rfl (ax (kX B hs rfl) rfl)))))) r) a6)) ∅) k1 (B.gr.lift g)
|run=>
  obtain⟨rfl,rfl,rfl⟩:=y;refine aZ.skip ⋯ (.refl a) (aZ.skip ⋯ (.refl a) (aZ.skip ⋯ (.refl a) (aZ.skip ⋯ (.refl a) (aZ.take ⋯ (.refl a) ?_))));exact dk (T n (aM mu rfl j) f .z .ba true st ls s a b c (aM jI rfl x) (λh=>by cases h)) λt s1 r g k1=>aZ.ret (cf (ax rfl (ax (aT (aS rfl (aS rfl (ax rfl (ax rfl (aS rfl (ax (kX B hs rfl) rfl)))))) r) a6)) ∅) k1 (B.gr.run g)
|ak u=>
  obtain rfl:k=.aD:=y;refine dk (T n (aM mu rfl j) f l .aD fr st ls s a b c (aM jI rfl x) (λ_=>rfl)) λt s1 r g k1=>dk (T n (aM mu rfl j) f l .aD fr st ls s1 k1.state (k1.get A b) c (aM jI rfl x) (λ_=>rfl)) λQ I D F C=>?_;refine aZ.skip (by(clear q;cases u)<;>rfl') (.refl a) (aZ.skip (by(clear q;cases u)<;>rfl') (.refl a) (aZ.skip (by(clear q;cases u)<;>rfl') (.refl a) (aZ.skip (by(clear q;cases u)<;>rfl') (.refl a) (aZ.skip (by(clear q;cases u)<;>rfl') (.refl a) ?_))));refine aZ.aK (aT (aS rfl (aS rfl (aS rfl (ax rfl (aS rfl (ax (kX B hs rfl) rfl)))))) r) k1 ?_;refine aZ.take (by(clear q;cases u)<;>rfl') (.refl k1.state) ?_;exact aZ.ret (cf (aS rfl (aS rfl (ax (aT (aS rfl (aS rfl (aS rfl (ax rfl (aS rfl (ax (kX B hs rfl) rfl)))))) D) a6))) ∅) C (B.gr.ak g F)
|when=>
  refine bB λY R=>dk (T n (aM mu rfl j) f l .aD fr st ls s a b c (aM jI rfl x) (λ_=>rfl)) λt s1 r g k1=>dk (T n (aM mu rfl j) f l k fr st ls s1 k1.state (k1.get A b) c (aM jI rfl x) p) λQ I D F C=>dk (T n (aM mu rfl j) f l k fr st ls I C.state ((k1.trans C).get A b) c (aM jI rfl x) p) λZ s3 U X k3=>R (aZ.skip ⋯ (.refl a) (aZ.skip ⋯ (.refl a) (aZ.skip ⋯ (.refl a) (aZ.skip ⋯ (.refl a) (aZ.skip ⋯ (.refl a) ?_)))));exact aZ.aK (aT (aS rfl (aS rfl (aS rfl (ax rfl (aS rfl (ax (kX B hs rfl) rfl)))))) r) k1 (aZ.skip ⋯ (.refl k1.state) (aZ.aK (aT (aS rfl (aS rfl (aS rfl (aS rfl (aS rfl (ax (kX B hs rfl) rfl)))))) D) C (aZ.ret (cf (ax rfl (aS rfl (aS rfl (ax (aT (aS rfl (aS rfl (aS rfl (aS rfl (aS rfl (ax (kX B hs rfl) rfl)))))) U) a6)))) ∅) k3 (B.gr.when g F X))))
def MQ:∀d,oD G P sc d:=by
 intro d
 induction d using Nat.strongRecOn with
|ind d ih=>
  intro n hn Γ l k f st T U D F I cz J;obtain⟨m,rfl⟩:∃m,n=m+4:=#[n-4,~~~cm (a7 0x190290c308049201241248 rfl) (aM 0x30190290c201248049009049205301a04363 rfl hn)];have K:=mF D F;have Q:(1000000:Nat)<=aJ:=aU _;rw[cI B.JJ rfl]
  suffices h:aZ (cx P sc (m+3)) [some .cF,some (.ref st),some (.int l.i),some (.str k.s),some (.ref T),some (.int d),some (.bool f),none,none,none,none,none] st U vv.body (λt=>G d Γ l f t k) by
   exact gi (h) λt s' L' e kp Z=>#[t,s',(congrArg cp e).trans rfl,Z,kp]
  refine bl (D) λp c g X=>aZ.aK (aT (by rfl) (LW B.toBase (n:=m) hs X g)) (bx.turn X (~~~bw jH rfl g)) ?_;have k1:bx st U (U.set st (.af [.int (p+1),.int c])):=bx.turn X (~~~bw jH rfl g);have z:=gy (o':=.af [.int (p+1),.int c]) X;generalize mixed sc (p+1)=num;generalize U.set st (.af [.int (p+1),.int c])=s1 at k1 z;refine aZ.step (L1:=sq st T l k d f num none none none none) (s1:=s1.set st (.af [.int (p+1),.int (c+1)])) (j7 (bX (cC (aB rfl) rfl (dP z rfl ∅ ∅)) rfl rfl) (aB rfl) rfl (mq (k:=1) z #[∅,(by decide:(1:Int)<2),nb rfl])) (bx.turn z (~~~bw jH rfl g)) ?_;have u:bx st s1 (s1.set st (.af [.int (p+1),.int (c+1)])):=bx.turn z (~~~bw jH rfl g);have IY:=gy (o':=.af [.int (p+1),.int (c+1)]) z;generalize s1.set st (.af [.int (p+1),.int (c+1)])=s2 at u IY;have uI:=(k1.trans u).get K F;have o:aZ (cx P sc (m+3)) (sq st T l k d f num none none none none) st s2 {.ret (.call 31 {.aa 0,.aa 1,.aa 2,.aa 3,.aa 4,.aa 7})} (λt=>G d Γ l f t k):=by
   exact dk (MM B.toBase B.yk B.JI B.gr (sc:=sc) (n:=m+1) (f:=f) (num:=num) u.state uI I (~~~aM zr rfl cz) J) λt A e3 h3 k3=>aZ.ret (aT (by rfl) e3) k3 (h3 d)
  cases d with
  |zero=>exact aZ.take (s1:=s2) (ic (any_cons (t:=true) (ae:=s2) ⋯ (~~~tf) (λ_=>#[rfl,rfl]))) (.refl u.state) o
  |succ d=>
   have x:bQ (cx P sc (m+3)) (.or {.cmp .Eq (.aa 5) (.int 0),.cmp .Gt (.aq (.aa 1) (.int 1)) (.int 60)}) (sq st T l k (d+1) f num none none none none) s2=.ok (decide (60<c+1)) s2:=
    ic (any_cons (t:=false) (ae:=s2) (cZ (aB rfl) rfl (by
     refine lZ▸EC▸?_
     rfl)) (λ_=>any_cons (t':=decide (60<c+1)) (cZ (cC (aB rfl) rfl (dP IY rfl ∅ ∅)) rfl rfl) (λq=>by(refine q▸?_);exact any_nil) (λq=>#[q,rfl])) (~~~ff))
   cases hb:decide (60<c+1) with
   |true=>(replace x:=hb▸x);exact aZ.take x (.refl u.state) o
   |false=>
    replace x:=hb▸x;refine aZ.skip x (.refl u.state) (dk (LV (sc:=sc) B.f32 (n:=m+2) (l:=l) (k:=k) (f:=f) (U:=s2)) λa τ w1 w0 Y=>aZ.aK (aT (by rfl) w1) (bx.add u.state) ?_);have k3:bx st s2 (s2++τ):=bx.add u.state;generalize s2++τ=A at Y k3;have b:0<(gj++gG l k f).length/\(gj++gG l k f).length<=100:=by(clear w1 x o;cases l)<;>cases k<;>cases f<;>exact#[nb rfl,nb rfl]
    have w:=MN l k f;generalize gj++gG l k f=W at Y b w;have h0:0<=num.fmod (W.length:Int):=Int.fmod_nonneg_of_pos _ (~~~bw wb rfl (Int.ofNat_lt.mpr b.1));have Z:num.fmod (W.length:Int)<W.length:=Int.fmod_lt_of_pos _ (~~~bw wb rfl (Int.ofNat_lt.mpr b.1));obtain⟨j,hj⟩:=Int.eq_ofNat_of_zero_le h0;have y:j<W.length:=BD Z hj;have R:∀L,cy L 8=some (.ref a)->aj (cx P sc (m+3)) (.len (.aa 8)) L A=.ok (.int W.length) A:=λL h=>by
     have:=e_len (C:=cx P sc (m+3)) (aB (U:=A) h) (xc Y (by rw[List.length_map];exact aM 0xd30124124124814d007247d078c590784c rfl Q b.2));rw[List.length_map] at this;exact this
    refine aZ.aK (v:=wv W[j]) (s1:=A) (cC (aB rfl) (bX (r:=.int j) (aB rfl) (R _ rfl) ?_) (dP Y (by simp[y]) (~~~cS Fj rfl h0 hj) (~~~cS Fm rfl (Int.ofNat_le.mpr b.2) (Int.ofNat_lt.mpr y)))) (.refl k3.state) ?_
    ·exact xa (Int.ofNat_lt.mpr b.1) hj
    refine aZ.aK (v:=.int (num.fdiv W.length)) (s1:=A) (bX (aB rfl) (R _ rfl) ?_) (.refl k3.state) ?_
    ·exact RJ b.1 (Nat.lt_of_le_of_lt b.2 ∅)
    exact L0 B hs (w _ (List.getElem_mem y)) (λd' hd'=>ih d' (aM tx rfl hd')) (aM 0x63341a84323049049205064341a04061323 rfl hn) k3.state (k3.get K uI) I (aM 0xa07bc110d8c18cc049049205a07bc110184d8cc rfl cz) J
end
def HK.free{c:Sc}{l:Lv}{f:Bool}{t:Tm}{k:Kd}(h:HK c l f t k):∀f',(f=true->f'=true)->HK c l f' t k:=by
 induction h with
|num=>exact λ_ _=>.num
|name h=>exact λ_ _=>.name h
|when _ _ _ b a d=>exact λf' h=>.when (b f' h) (a f' h) (d f' h)
|use h _ i=>exact λf' q=>.use h (i f' q)
|aY _ _ b a=>exact λf' h=>.aY (b f' h) (a f' h)
|bg e _ _ b a=>exact λf' h=>.bg e (b f' h) (a f' h)
|def_ hk g _ _ a=>exact λf' h=>.def_ hk g (a f' h)
|bK h _=>exact λ_ _=>.bK h
|hole h _=>exact λ_ _=>.hole h
|lift _ i=>exact λf' h=>.lift (i f' h)
|run _ i=>intro f' h;obtain rfl:=h rfl;exact .run (i true λ_=>rfl)
|ak _ _ b a=>exact λf' h=>.ak (b f' h) (a f' h)
def kP(a:Sc)(e:Ent):look (a++[e]) e.x=some e:=by rw[iD,beq_self_eq_true];rfl
def iw{a b n k:Nat}(c:a<=n)(d:b<=n)(h:n+1<=k):1+max a b<=k:=by exact ej 0x3810cd3212012402412402412480490090490492053cc14f34538184f rfl c d h
def JO{a b c n k:Nat}(d:a<=n)(e:b<=n)(f:c<=n)(h:n+1<=k):1+max a (max b c)<=k:=iw d (Nat.max_le.mpr #[e,f]) h
def nL{a n k:Nat}(b:a<=n)(h:n+1<=k):1+a<=k:=by exact bD 0xd04c84124124124814e30534184e rfl b h
abbrev JP(d:Nat)(a:Sc)(l:Lv)(f:Bool)(t:Tm)(k:Kd):Prop:=HK a l f t k/\t.depth<=6*d+2
def Qi{d a b:Nat}(c:a<=6*(d-1)+2)(e:b<=6*(d-1)+2):1+max a (1+(1+max (1+1) (1+b)))<=6*(d+1)+2:=
 iw (n:=6*d+7) (~~~aM Ft rfl c) (nL (n:=6*d+5) (iw (n:=6*d+3) (ee _ _) (~~~aM 0x6310d98132120124124804904920506210284d98c rfl e) (Nat.le_succ _)) (Nat.le_succ _)) (aU _)
def Of{d a b c:Nat}(e:a<=6*(d-1)+2)(g:b<=6*0+2)(f:c<=6*(d-2)+2):1+max a (1+(1+max (1+1) (1+(1+max 1 (1+max b c)))))<=6*(d+1)+2:=
 iw (n:=6*d+7) (~~~aM Ft rfl e) (nL (n:=6*d+6) (iw (n:=6*d+5) (ee _ _) (nL (n:=6*d+4) (iw (n:=6*d+3) (ee _ _) (iw (n:=6*d+2) (bZ () (ee _ _)) (~~~aM 0x6210d98c20124124804904920506210288d98c rfl f) (aU _)) (aU _)) (aU _)) (aU _)) (aU _)) (aU _)
def IZ:Gr JP where
 num:=#[.num,ee _ _]
 name h:=#[.name h,by show 1<=_;(exact ee _ _)]
 kB h:=#[.hole (.name h),ee _ _]
 la h:=#[.bK (.name h),ee _ _]
 lb:=#[.bK .num,ee _ _]
 lp:=#[.lift .num,ee _ _]
 when h1 h2 h3:=#[.when h1.1 h2.1 h3.1,JO h1.2 h2.2 h3.2 (~~~a7 kY rfl)]
 use h h1:=#[.use h h1.1,nL h1.2 (~~~a7 kY rfl)]
 aY h1 h2:=#[.aY h1.1 h2.1,iw h1.2 h2.2 (~~~a7 kY rfl)]
 bg h h1 h2:=#[.bg h h1.1 h2.1,iw h1.2 h2.2 (~~~a7 kY rfl)]
 def_ h h1 h2:=#[.def_ (λq=>(h q).1) h1.1 h2.1,iw h1.2 h2.2 (~~~a7 kY rfl)]
 bK h:=#[.bK h.1,nL h.2 (~~~a7 kY rfl)]
 hole h:=#[.hole h.1,nL h.2 (~~~a7 kY rfl)]
 lift h:=#[.lift h.1,nL h.2 (~~~a7 kY rfl)]
 run h:=#[.run h.1,nL h.2 (~~~a7 kY rfl)]
 ak h1 h2:=#[.ak h1.1 h2.1,iw h1.2 h2.2 (~~~a7 kY rfl)]
 kept {d} _ _ _ _ _ _ i1 i2:=#[.aY (i1.1.free _ (λh=>~~~ff h)) (.hole (.aY (k:=.ba) (.bK (.name (kP _ _))) (.bK i2.1))),Qi i1.2 i2.2]
 twice {d} _ _ _ _ _ _ _ _ _ i1 i2 i3:=#[.aY (i1.1.free _ (λh=>~~~ff h)) (.hole (.aY (k:=.ba) (.bK (.name (kP _ _))) (.bK (.aY .num (.ak i2.1 i3.1))))),Of i1.2 i2.2 i3.2]
def Qj{C:Ctx}{b hb:SL}{c:Nat}{L L1:aP}{U ae:H}{f:Fl}(h:a8 C b L U=.ok f L1 ae):cT C (.hZ b c hb) L U=.ok f L1 ae:=by simp only[EB,h]
section
variable{P:Prog}{sc:List Int}
structure Wc(P:Prog):Prop extends so P JP,Kinds P where
 WO:P.fns 51=some K5
 WQ:P.fns 52=some N6
variable(B:Wc P)
include B
omit B in
def Og{C:Ctx}{L:aP}{U ae ao:H}{a b:E}(c:aj C a L U=.ok (.bool true) ae)(d:aj C b L ae=.ok (.bool true) ao):aj C (.and {a,b}) L U=.ok (.bool true) ao:=by rw[l9,vB,aN c,sM,aN (show M.pure true ae=.ok true ae from rfl),if_pos rfl,yT,aN d];rfl
end
structure oX(P:Prog):Prop where
 f0:P.fns 0=some sQ
 f1:P.fns 1=some s8
 f2:P.fns 2=some sR
 fy:P.fns 18=some o9
 JQ:P.fns 23=some Dk
 yl:P.fns 24=some CK
 JR:P.fns 26=some Ct
 B6:P.fns 27=some yt
 B7:P.fns 28=some yu
 c2:P.consts 2=some (.int 1000003)
 c3:P.consts 3=some (.int 2000)
 c4:P.consts 4=some (.int 30)
structure Self(U:H)(s a:Nat)(m:Int):Prop where
 i:∃c,U[s]?=some (.inst c a)
 n:U[a]?=some (.dM m)
def Self.ok(x:Self U s a m):iH (.ref s) U=.ok (a,m) U:=by
 refine cb (x.i) λc h=>?_;show M.bind (cH s) _ U=_;refine(aN (mn h))▸?_;show M.bind (cH a) _ U=_;refine(aN (mn x.n))▸?_
 rfl
def Self.add(x:Self U s a m):Self (U++τ) s a m:=let #[c,h]:=x.i;#[#[c,old h],old x.n]
section
variable{C:Ctx}{L:aP}{U ae ao b9:H}{o:E}{r:V}
def dg(b:aj C o L U=.ok (.ref s) ae)(c:Self ae s a m)(d:dC C es L ae=.ok vs ao)(e:C.call f (.ref s::vs) ao=.ok r b9):aj C (.cQ f o es) L U=.ok r b9:=by refine y0▸?_;refine(aN b)▸(aN c.ok)▸(aN d)▸e▸?_;with_reducible rfl
def GP(b:aj C o L U=.ok (.ref s) ae)(c:Self ae s a m):aj C (.attr o "many") L U=.ok (.int m) ae:=by
 refine M8▸(aN b)▸?_;show M.bind (iH _) _ ae=_
 (refine(aN c.ok)▸?_);rfl
def Oh(b:aj C e L U=.ok (.int k) ae)(c:aj C o L ae=.ok (.ref s) ae)(d:Self ae s a m):cT C (.jQ o "many" e) L U=.ok .next L (ae.set a (.dM k)):=by
 have f:vI (.ref s) (.int k) ae=.ok Unit.unit (ae.set a (.dM k)):=by
  show M.bind (iH _) _ ae=_
  (refine(aN d.ok)▸?_);rfl
 refine OJ▸?_;simp only[Qh.N.bind,Qh.N.lift,b,c,f,Qh.N.pure]
def E1(a:aj C e L U=.ok (.ay [x,y,z]) ae):cT C (.ik [i,j,k] e) L U=.ok .next (cq (cq (cq L i x) j y) k z) ae:=by
 refine FD▸?_;simp only[Qh.N.bind,Qh.N.lift,a]
 rfl
end
abbrev vn(i:Int):Str:="v"++fW i
abbrev jV(w:U2)(i j:Int):Int:=match w with
|.sum=>(i+j).fmod 1000003|.product=>(i*j).fmod 1000003|.less=>if i<j then 1 else 0
section
variable{P:Prog}{sc:List Int}(B:oX P)
include B
def Ak:aj (cx P sc n) (.glob 2) L U=.ok (.int 1000003) U:=by (refine rE▸?_);show dD (P.consts 2) U=_;(refine(B.c2)▸?_);rfl
def zX:aj (cx P sc n) (.glob 3) L U=.ok (.int 2000) U:=by (refine rE▸?_);show dD (P.consts 3) U=_;(refine(B.c3)▸?_);rfl
def GQ:aj (cx P sc n) (.glob 4) L U=.ok (.int 30) U:=by (refine rE▸?_);show dD (P.consts 4) U=_;(refine(B.c4)▸?_);rfl
def RW(h:small i=true)(U:H):binop .Mult (.int i) (.int j) U=.ok (.int (i*j)) U:=by (refine j4▸?_;refine h.symm▸?_);rfl
def MR(a:small i=true)(U:H):av P sc (n+1) 23 [.str w.str,.int i,.int j] U=.ok (.int (jV w i j)) U:=by
 rw[cI B.JQ rfl];cases w with
|sum=>exact(congrArg cp (cu ⋯ (bq (bX (bX (aB rfl) (aB rfl) rfl) (Ak B) rfl)))).trans rfl
|product=>exact(congrArg cp (jmp 1 ⋯ (cu ⋯ (bq (bX (bX (aB rfl) (aB rfl) (RW B a U)) (Ak B) rfl))))).trans rfl
|less=>
  refine(congrArg cp (jmp 2 ⋯ (bq (wL (oO (aB rfl) (aB rfl) (HJ i j U)) rfl)))).trans ?_;show Res.ok (V.int (if decide (i<j)=true then 1 else 0)) U=Res.ok (V.int (if i<j then 1 else 0)) U
  by_cases h:i<j<;>simp[h]
def L3{n:Nat}{t:Tm}(d:t.size<=2000)(e:t.depth<=30)(c:t.depth<=n):∃τ,av P sc (n+2) 24 [t.ag] U=.ok .none (U++τ):=by
 refine cb (yZ (sc:=sc) B.f0 B.f1 n t U c) λa f=>?_;obtain⟨b,g⟩:=yL (sc:=sc) B.f0 B.f2 n t (U++a) c;refine#[a++b,?_];rw[cI B.yl rfl,←List.append_assoc];have h:dh .Gt (.int t.size) (.int 2000) (U++a)=.ok false (U++a):=by
  show Res.ok (decide ((2000:Int)<t.size)) _=_;rw[decide_eq_false (~~~Int.not_lt.mpr (bw Fu rfl (Int.ofNat_le.mpr d)))]
 have i:dh .Gt (.int t.depth) (.int 30) (U++a++b)=.ok false (U++a++b):=by
  show Res.ok (decide ((30:Int)<t.depth)) _=_;rw[decide_eq_false (~~~Int.not_lt.mpr (bw Fv rfl (Int.ofNat_le.mpr e)))]
 exact(congrArg cp ((cj (ic (any_cons (cZ (aT rfl f) (zX B) h) (λ_=>any_cons (cZ (aT rfl g) (GQ B) i) (λ_=>any_nil) (~~~ff)) (~~~ff)))).trans eU)).trans rfl
abbrev I0:SL:=match yt.body with
|.cons _ r=>r
|_=>.nil
def kg{n s d:Nat}{t:Tm}{w:Str}(a:∀C x L,aj C (.aq (.aa 1) (.int 0)) (x::some t.ag::L) U=.ok (.str w) U)(h:a8 (cx P sc n) I0 [some (.ref s),some t.ag,some (.ref d),some (.str w),none,none,none,none,none,none,none] U=.ok (.ret v) L' ah):av P sc (n+1) 27 [.ref s,t.ag,.ref d] U=.ok v ah:=by rw[cI B.B6 rfl];exact(congrArg cp ((bj (a _ _ _)).trans h)).trans rfl
def HO(U:H):av P sc (n+1) 27 [.ref s,(Tm.num i).ag,.ref d] U=.ok (.int (i.fmod 1000003)) U:=
 kg B (λ_ _ _=>rfl) (cu ⋯ (bq (bX rfl (Ak B) rfl)))
def GR(a:U[d]?=some (.az es))(b:dn es x=some v):av P sc (n+1) 27 [.ref s,(Tm.name x).ag,.ref d] U=.ok v U:=
 kg B (λ_ _ _=>rfl) (jmp 1 ⋯ (cu ⋯ (bq (cC (aB rfl) rfl (jF a b)))))
def HP(S:Self U s a m)(b:av P sc (n+1) 27 [.ref s,x.ag,.ref d] U=.ok (.int i) ae)(c:Self ae s a m1)(e:av P sc (n+1) 27 [.ref s,y.ag,.ref d] ae=.ok (.int j) ao)(f:small i=true):
  av P sc (n+2) 27 [.ref s,(Tm.ak u x y).ag,.ref d] U=.ok (.int (jV u i j)) ao:=by refine kg B (λ_ _ _=>rfl) ((cj (by cases u<;>rfl')).trans ((cj (by cases u<;>rfl')).trans (cu (by cases u<;>rfl') ((bj (dg (aB rfl) S rfl b)).trans (bq (aT (aS rfl (aS rfl (ax (dg (aB rfl) c rfl e) a6))) (MR B f ao)))))))
def GS(S:Self U s a m)(f:av P sc n 27 [.ref s,x.ag,.ref d] U=.ok (.int i) ae)(e:Self ae s a m1)(b:av P sc n 27 [.ref s,(if i=0 then z else y).ag,.ref d] ae=.ok v ao):
  av P sc (n+1) 27 [.ref s,(Tm.when x y z).ag,.ref d] U=.ok v ao:=by
 have c:bQ (cx P sc n) (.cmp .NotEq (.cQ 27 (.aa 0) {.aq (.aa 1) (.int 1),.aa 2}) (.int 0)) [some (.ref s),some (Tm.when x y z).ag,some (.ref d),some (.str "when"),none,none,none,none,none,none,none] U=.ok (!(i==0)) ae:=
  cZ (dg (aB rfl) S (by rfl) f) rfl (by(refine pf▸?_);rfl)
 refine kg B (w:="when") (L':=[some (.ref s),some (Tm.when x y z).ag,some (.ref d),some (.str "when"),none,none,none,none,none,none,none]) (λ_ _ _=>rfl) (jmp 3 ⋯ (cu (ae:=U) ⋯ ?_))
 by_cases h:i=0
 ·replace b:=(if_pos h)▸b;replace c:=h▸c;exact(cj c).trans (bq (dg (aB rfl) e rfl b))
 ·replace b:=(if_neg h)▸b;replace c:=(beq_eq_false_iff_ne.mpr h)▸c;exact cu c (bq (dg (aB rfl) e rfl b))
def HQ(S:Self U s a m)(b:av P sc (n+1) 27 [.ref s,p.ag,.ref d] U=.ok u ae)(c:Self ae s a m1)(e:ae[d]?=some (.az es))(f:es.length<=aJ)(g:av P sc (n+1) 27 [.ref s,q.ag,.ref ae.length] (ae++[.az (bp es x u)])=.ok v ao):av P sc (n+2) 27 [.ref s,(Tm.aY x p q).ag,.ref d] U=.ok v ao:=
 kg B (λ_ _ _=>rfl) (jmp 4 ⋯ (cu ⋯ ((bj (dg (aB rfl) S rfl b)).trans (bq (dg (aB rfl) c (ax rfl (ax (aT (aS rfl (ax rfl rfl)) (fQ B.fy e f)) a6)) g)))))
def HR(S:Self U s a m)(b:U[d]?=some (.az es))(c:es.length<=aJ)(e:av P sc (n+1) 27 [.ref s,q.ag,.ref U.length] (U++[.az (bp es g (.ay [.str x,p.ag,.ref d]))])=.ok v ao):av P sc (n+2) 27 [.ref s,(Tm.def_ g x kd p q).ag,.ref d] U=.ok v ao:=
 kg B (λ_ _ _=>rfl) (jmp 6 ⋯ (cu ⋯ (bq (dg (aB rfl) S (ax rfl (ax (aT (aS rfl (ax rfl (ax (cf (ax rfl (ax rfl rfl)) ∅) a6))) (fQ B.fy b c)) a6)) e))))
def HS{n s d c a:Nat}{m m1:Int}{g x:Str}{p body:Tm}(S:Self U s a m)(e:av P sc (n+1) 27 [.ref s,p.ag,.ref d] U=.ok u ae)(f:Self ae s a m1)(h:ae[d]?=some (.az es))(i:dn es g=some (.ay [.str x,body.ag,.ref c]))(b:ae[c]?=some (.az es'))(j:es'.length<=aJ)(k:av P sc (n+1) 27 [.ref s,body.ag,.ref ae.length] (ae++[.az (bp es' x u)])=.ok v ao):av P sc (n+2) 27 [.ref s,(Tm.use g p).ag,.ref d] U=.ok v ao:=
 kg B (λ_ _ _=>rfl) (jmp 7 ⋯ (cu ⋯ ((bj (dg (aB rfl) S rfl e)).trans ((dt (E1 (cC (aB rfl) rfl (jF h i)))).trans (bq (dg (aB rfl) f (aS rfl (ax (aT (aS rfl (aS rfl rfl)) (fQ B.fy b j)) a6)) k))))))
def Qk{n s d a:Nat}{m:Int}{p R:Tm}(S:Self U s a m)(b:av P sc (n+2) 28 [.ref s,p.ag,.ref d] U=.ok R.ag ae)(c:R.size<=2000)(e:R.depth<=30)(f:R.depth<=n):
  ∃τ,av P sc (n+3) 27 [.ref s,(Tm.un .bK p).ag,.ref d] U=.ok R.ag (ae++τ):=by exact cb (L3 (sc:=sc) B (n:=n) (U:=ae) c e f) λτ g=>#[τ,kg B (λ_ _ _=>rfl) (jmp 8 ⋯ (cu ⋯ ((bj (dg (aB rfl) S rfl b)).trans ((dt (jE (aT rfl g))).trans (bq (aB rfl))))))]
def TN{n s d a:Nat}{m m1:Int}{p R:Tm}(S:Self U s a m)(b:av P sc n 27 [.ref s,p.ag,.ref d] U=.ok R.ag ae)(c:av P sc n 27 [.ref s,R.ag,.ref ae.length] (ae++[.az []])=.ok v ao):
  av P sc (n+1) 27 [.ref s,(Tm.un .run p).ag,.ref d] U=.ok v ao:=
 kg B (λ_ _ _=>rfl) (jmp 10 ⋯ (bq (dg (aB rfl) S (ax (dg (aB rfl) S rfl b) (ax rfl a6)) c)))
end
def tr{k:Int}{j:Nat}(h:j<k.toNat):(d9 k)[j]?=some (.int j):=by unfold d9;rw[List.getElem?_map,List.getElem?_range h];rfl
def D5{k:Int}:(d9 k)[k.toNat]?=none:=by unfold d9;rw[List.getElem?_eq_none];simp
def xg{C:Ctx}{L:aP}{U ae ao:H}{a:E}{x r:V}(b:aj C a L U=.ok x ae)(c:kn x ae=.ok r ao):aj C (.tuple a) L U=.ok r ao:=by rw[Na,aN b,c]
section
variable{P:Prog}{sc:List Int}(B:oX P)
include B
abbrev HT:SL:=.cons (.aK 5 (.cQ 27 (.aa 0) {.aq (.aa 1) (.int 4),.call 18 {.aa 2,.aq (.aa 1) (.int 2),.aa 5}})) .nil
def MS{n s d a:Nat}{k:Int}{x:Str}{p q:Tm}(I:Nat->V->H->Prop)(g:∀j v b,j<k.toNat->I j v b->(∃m',Self b s a m')/\∃es,b[d]?=some (.az es)/\es.length<=aJ/\∃v' f,av P sc (n+1) 27 [.ref s,q.ag,.ref b.length] (b++[.az (bp es x v)])=.ok v' f/\I (j+1) v' f):
  ∀(r j:Nat)(v:V)(y:Option V)(U:H),j+r=k.toNat->I j v U->∃v' i b,eK (λl=>M.pure ((d9 k)[l]?.map λv=>[(6,v)])) (a8 (cx P sc (n+1)) HT) (r+1) j [some (.ref s),some (Tm.bg k x p q).ag,some (.ref d),some (.str "turns"),none,some v,y,none,none,none,none] U=
   .ok .next [some (.ref s),some (Tm.bg k x p q).ag,some (.ref d),some (.str "turns"),none,some v',i,none,none,none,none] b/\I k.toNat v' b:=by
 intro r
 induction r with
|zero=>
  intro j v y U c h;have:j=k.toNat:=by assumption
  clear c;subst this;exact#[v,y,U,tq (by rw[D5];rfl),h]
|succ r m=>
  intro j v y U c h;refine bB λG o=>?_;obtain⟨⟨m',S⟩,es,t,u,v',f,e,w⟩:=g j v U (bD km rfl c) h;refine g9 (m (j+1) v' (some (.int j)) f (cm (bD oc rfl c) (bD og rfl c)) w) λz A C D F=>o (#[z,A,C,?_,F]);refine(q9 (ps:=[(6,.int j)]) (ae:=U) (by rw[tr (~~~bD km rfl c)];rfl) rfl ((bj (dg (aB rfl) S (ax rfl (ax (aT (aS rfl (ax (x:=.str x) rfl (by rfl))) (fQ B.fy t u)) a6)) e)).trans eU)).trans D
def F5{n s d a:Nat}{m:Int}{k:Int}{x:Str}{p q:Tm}{u:V}{U ae:H}(S:Self U s a m)(hk:0<=k/\k<=1000000)(e:av P sc (n+1) 27 [.ref s,p.ag,.ref d] U=.ok u ae)(I:Nat->V->H->Prop)(f:I 0 u ae)(g:∀j v b,j<k.toNat->I j v b->(∃m',Self b s a m')/\∃es,b[d]?=some (.az es)/\es.length<=aJ/\∃v' c,av P sc (n+1) 27 [.ref s,q.ag,.ref b.length] (b++[.az (bp es x v)])=.ok v' c/\I (j+1) v' c):
  ∃v ao,av P sc (n+2) 27 [.ref s,(Tm.bg k x p q).ag,.ref d] U=.ok v ao/\I k.toNat v ao:=by exact g9 (MS (sc:=sc) B (n:=n) (k:=k) (x:=x) (p:=p) (q:=q) I g k.toNat 0 u none ae (~~~cm (a7 jG rfl) (a7 oh rfl)) f) λv y ao h i=>#[v,ao,kg B (λ_ _ _=>rfl) (jmp 5 ⋯ (cu ⋯ ((bj (dg (aB rfl) S rfl e)).trans ((dt (vT rfl hk h)).trans (bq (aB rfl)))))),i]
abbrev xR:SL:=match yu.body with
|.cons _ r=>r
|_=>.nil
def mr{n s d:Nat}{t:Tm}{w:Str}{U a:H}{v:V}{L':aP}(b:∀C x L,aj C (.aq (.aa 1) (.int 0)) (x::some t.ag::L) U=.ok (.str w) U)(h:a8 (cx P sc n) xR [some (.ref s),some t.ag,some (.ref d),some (.str w),none,none,none,none] U=.ok (.ret v) L' a):av P sc (n+1) 28 [.ref s,t.ag,.ref d] U=.ok v a:=by rw[cI B.B7 rfl];exact(congrArg cp ((bj (b _ _ _)).trans h)).trans rfl
def TP{n s d:Nat}{i:Int}(U:H):av P sc (n+1) 28 [.ref s,(Tm.num i).ag,.ref d] U=.ok (Tm.num i).ag U:=
 mr B (λ_ _ _=>rfl) (cu ⋯ (bq (aB rfl)))
def RX{n s d:Nat}{es:List (Str×V)}{x y:Str}{U:H}(a:U[d]?=some (.az es))(b:dn es x=some (.str y)):av P sc (n+1) 28 [.ref s,(Tm.name x).ag,.ref d] U=.ok (Tm.name y).ag U:=
 mr B (λ_ _ _=>rfl) (jmp 1 ⋯ (cu ⋯ (bq (cf (ax rfl (ax (cC (aB rfl) rfl (jF a b)) a6)) ∅))))
def RY{n s d a:Nat}{m:Int}{p:Tm}{v:V}{U ae:H}(S:Self U s a m)(b:av P sc n 27 [.ref s,p.ag,.ref d] U=.ok v ae):av P sc (n+1) 28 [.ref s,(Tm.un .hole p).ag,.ref d] U=.ok v ae:=
 mr B (λ_ _ _=>rfl) (jmp 2 ⋯ (cu ⋯ (bq (dg (aB rfl) S rfl b))))
def TQ{n s d a:Nat}{m:Int}{es:List (Str×V)}{g y:Str}{p R:Tm}{U ae:H}(S:Self U s a m)(b:U[d]?=some (.az es))(c:dn es g=some (.str y))(e:av P sc n 28 [.ref s,p.ag,.ref d] U=.ok R.ag ae):av P sc (n+1) 28 [.ref s,(Tm.use g p).ag,.ref d] U=.ok (Tm.use y R).ag ae:=
 mr B (λ_ _ _=>rfl) (jmp 3 ⋯ (cu ⋯ (bq (cf (ax rfl (ax (cC (aB rfl) rfl (jF b c)) (ax (dg (aB rfl) S rfl e) a6))) ∅))))
def TR{n s d a:Nat}{m m1 m2:Int}{x y:Str}{p q R T:Tm}{es:List (Str×V)}{U b ae ao:H}(S:Self U s a m)(c:av P sc (n+1) 26 [.ref s] U=.ok (.str y) b)(e:Self b s a m1)(f:av P sc (n+1) 28 [.ref s,p.ag,.ref d] b=.ok R.ag ae)(g:Self ae s a m2)(h:ae[d]?=some (.az es))(i:es.length<=aJ)(j:av P sc (n+1) 28 [.ref s,q.ag,.ref ae.length] (ae++[.az (bp es x (.str y))])=.ok T.ag ao):av P sc (n+2) 28 [.ref s,(Tm.aY x p q).ag,.ref d] U=.ok (Tm.aY y R T).ag ao:=
 mr B (λ_ _ _=>rfl) (jmp 4 ⋯ (cu ⋯ ((bj (dg (aB rfl) S a6 c)).trans ((bj (dg (aB rfl) e rfl f)).trans (bq (cf (aS rfl (aS rfl (aS rfl (ax (dg (aB rfl) g (ax rfl (ax (aT (aS rfl (ax rfl rfl)) (fQ B.fy h i)) a6)) j) a6)))) ∅))))))
def Ql{n s d a:Nat}{m m1 m2 k:Int}{x y:Str}{p q R T:Tm}{es:List (Str×V)}{U b ae ao:H}(S:Self U s a m)(c:av P sc (n+1) 26 [.ref s] U=.ok (.str y) b)(e:Self b s a m1)(f:av P sc (n+1) 28 [.ref s,p.ag,.ref d] b=.ok R.ag ae)(g:Self ae s a m2)(h:ae[d]?=some (.az es))(i:es.length<=aJ)(j:av P sc (n+1) 28 [.ref s,q.ag,.ref ae.length] (ae++[.az (bp es x (.str y))])=.ok T.ag ao):av P sc (n+2) 28 [.ref s,(Tm.bg k x p q).ag,.ref d] U=.ok (Tm.bg k y R T).ag ao:=
 mr B (λ_ _ _=>rfl) (jmp 5 ⋯ (cu ⋯ ((bj (dg (aB rfl) S a6 c)).trans ((bj (dg (aB rfl) e rfl f)).trans (bq (cf (aS rfl (ax rfl (aS rfl (aS rfl (ax (dg (aB rfl) g (ax rfl (ax (aT (aS rfl (ax rfl rfl)) (fQ B.fy h i)) a6)) j) a6))))) ∅))))))
def TS{n s d a:Nat}{m i m1 m2:Int}{g x y z h:Str}{p q R T:Tm}{es b:List (Str×V)}{U c ae ao b9:H}(S:Self U s a m)(j:av P sc (n+1) 26 [.ref s] U=.ok (.str y) c)(k:Self c s a i)(l:av P sc (n+1) 26 [.ref s] c=.ok (.str z) ae)(o:Self ae s a m1)(r:ae[d]?=some (.az es))(t:es.length<=aJ)(u:av P sc (n+1) 28 [.ref s,p.ag,.ref ae.length] (ae++[.az (bp es x (.str z))])=.ok R.ag ao)(v:Self ao s a m2)(e:ao[d]?=some (.az b))(f:b.length<=aJ)(w:av P sc (n+1) 28 [.ref s,q.ag,.ref ao.length] (ao++[.az (bp b g (.str y))])=.ok T.ag b9):
  av P sc (n+2) 28 [.ref s,(Tm.def_ g x h p q).ag,.ref d] U=.ok (Tm.def_ y z h R T).ag b9:=
 mr B (λ_ _ _=>rfl) (jmp 6 ⋯ (cu ⋯ ((bj (dg (aB rfl) S a6 j)).trans ((bj (dg (aB rfl) k a6 l)).trans ((bj (dg (aB rfl) o (ax rfl (ax (aT (aS rfl (ax rfl rfl)) (fQ B.fy r t)) a6)) u)).trans (bq (cf (aS rfl (aS rfl (aS rfl (ax rfl (aS rfl (ax (dg (aB rfl) v (ax rfl (ax (aT (aS rfl (ax rfl rfl)) (fQ B.fy e f)) a6)) w) a6)))))) ∅)))))))
def TT{n s d a:Nat}{m m1:Int}{u:U2}{x y X Y:Tm}{U ae ao:H}(S:Self U s a m)(e:av P sc n 28 [.ref s,x.ag,.ref d] U=.ok X.ag ae)(f:Self ae s a m1)(g:av P sc n 28 [.ref s,y.ag,.ref d] ae=.ok Y.ag ao):
  av P sc (n+1) 28 [.ref s,(Tm.ak u x y).ag,.ref d] U=.ok (Tm.ak u X Y).ag (ao++[.af [X.ag,Y.ag]]):=by
 have f1:M.bind (aj (cx P sc n) (.cQ 28 (.aa 0) {.aa 7,.aa 2}) (cq (dj [some (.ref s),some (Tm.ak u x y).ag,some (.ref d),some (.str u.str),none,none,none,none] [2,0]) 7 x.ag)) (λy=>M.pure (some y)) U=.ok (some X.ag) ae:=by
  rw[aN (dg (aB rfl) S rfl e)];rfl
 have f2:M.bind (aj (cx P sc n) (.cQ 28 (.aa 0) {.aa 7,.aa 2}) (cq (dj [some (.ref s),some (Tm.ak u x y).ag,some (.ref d),some (.str u.str),none,none,none,none] [2,0]) 7 y.ag)) (λy=>M.pure (some y)) ae=.ok (some Y.ag) ao:=by
  rw[aN (dg (aB rfl) f rfl g)];rfl
 have b:dG (.fix [x.ag,y.ag]) (λh=>M.bind (aj (cx P sc n) (.cQ 28 (.aa 0) {.aa 7,.aa 2}) (cq (dj [some (.ref s),some (Tm.ak u x y).ag,some (.ref d),some (.str u.str),none,none,none,none] [2,0]) 7 h)) λy=>M.pure (some y)) 3 0 U=.ok [X.ag,Y.ag] ao:=
  gF (n:=2) (y:=some X.ag) (r:=[Y.ag]) (ae:=U) rfl f1 (gF (n:=1) (y:=some Y.ag) (r:=[]) rfl f2 (kM rfl))
 have i:kn (.ref ao.length) (ao++[.af [X.ag,Y.ag]])=.ok (.ay [X.ag,Y.ag]) (ao++[.af [X.ag,Y.ag]]):=by
  show M.bind (bO _) _ _=_;rw[aN (d8 bA)];rfl
 have c:a8 (cx P sc n) {.ret (.ak .Add (.ay {.aa 3}) (.tuple (.comp (.cQ 28 (.aa 0) {.aa 7,.aa 2}) 7 [2,0] (.slc (.aa 1) (.int 1) .none))))} [some (.ref s),some (Tm.ak u x y).ag,some (.ref d),some (.str u.str),none,none,none,none] U=.ok (.ret (Tm.ak u X Y).ag) [some (.ref s),some (Tm.ak u x y).ag,some (.ref d),some (.str u.str),none,none,none,none] (ao++[.af [X.ag,Y.ag]]):=
  bq (bX (cf rfl ∅) (xg (mf rfl rfl rfl ∅ b) i) rfl)
 refine mr B (λ_ _ _=>rfl) (Eq.trans ?_ c);(clear c b f2 f1;cases u)<;>exact jmp 6 ⋯ (cj ⋯)
end
structure LVal(P:Prog):Prop where
 WR:P.fns 36=some K6
 WS:P.fns 37=some LQ
 WT:P.fns 38=some Kk
section
variable{P:Prog}{sc:List Int}(B:LVal P)
include B
omit B in
def F6{i j:Int}(h:small i=true)(U:H):binop .Mult (.int i) (.int j) U=.ok (.int (i*j)) U:=by rw[j4,h];rfl
end
set_option genCtorIdx false in
inductive Dv where|no|num (i:Int)|fn (F:Int->Int)
abbrev upd(J:Str->Dv)(x:Str)(v:Dv):Str->Dv:=λy=>if x==y then v else J y
abbrev iter(f:Int->Int):Nat->Int->Int
|0,i=>i
|n+1,i=>f (iter f n i)
abbrev Tm.den:Tm->(Str->Dv)->Int
|.num i,_=>i.fmod 1000003
|.name x,J=>match J x with|.num i=>i|_=>0
|.un _ a,J=>a.den J
|.use g a,J=>match J g with|.fn F=>F (a.den J)|_=>0
|.ak w a b,J=>jV w (a.den J) (b.den J)
|.aY x a b,J=>b.den (upd J x (.num (a.den J)))
|.bg k x a b,J=>iter (λi=>b.den (upd J x (.num i))) k.toNat (a.den J)
|.def_ g x _ a b,J=>b.den (upd J g (.fn λi=>a.den (upd J x (.num i))))
|.when a b c,J=>if a.den J=0 then c.den J else b.den J
def I1:(Tm.num i).den J=i.fmod 1000003:=rfl
def I2:(Tm.name x).den J=match J x with|.num i=>i|_=>0:=rfl
def I3:(Tm.un u1 a).den J=a.den J:=rfl
def I4:(Tm.use g a).den J=match J g with|.fn F=>F (a.den J)|_=>0:=rfl
def I5:(Tm.ak w a b).den J=jV w (a.den J) (b.den J):=rfl
def I6:(Tm.aY x a b).den J=b.den (upd J x (.num (a.den J))):=rfl
def I7:(Tm.bg k x a b).den J=iter (λi=>b.den (upd J x (.num i))) k.toNat (a.den J):=rfl
def I8:(Tm.def_ g x u1 a b).den J=b.den (upd J g (.fn λi=>a.den (upd J x (.num i)))):=rfl
def I9:(Tm.when a b c).den J=if a.den J=0 then c.den J else b.den J:=rfl
class inductive PT:Sc->Tm->Prop
|num {Γ i}:PT Γ (.num i)
|name {Γ x l k}:look Γ x=some #[x,l,.val k]->PT Γ (.name x)
|use {Γ g a l ka k}:look Γ g=some #[g,l,.fn ka k]->PT Γ a->PT Γ (.use g a)
|ak {Γ w a b}:PT Γ a->PT Γ b->PT Γ (.ak w a b)
|when {Γ a b c}:PT Γ a->PT Γ b->PT Γ c->PT Γ (.when a b c)
|aY {Γ x a b l k}:PT Γ a->PT (Γ++[#[x,l,.val k]]) b->PT Γ (.aY x a b)
|bg {Γ n x a b l k}:(0<=n/\n<=9)->PT Γ a->PT (Γ++[#[x,l,.val k]]) b->PT Γ (.bg n x a b)
|def_ {Γ g x kd a b l k l' ka k'}:PT (Γ++[#[x,l,.val k]]) a->PT (Γ++[#[g,l',.fn ka k']]) b->PT Γ (.def_ g x kd a b)
abbrev dW(i:Int):Prop:=0<=i/\i<1000003
def zk(w:U2)(i j:Int):dW (jV w i j):=by
 cases w with
|sum=>exact#[Int.fmod_nonneg_of_pos _ ∅,Int.fmod_lt_of_pos _ ∅]
|product=>exact#[Int.fmod_nonneg_of_pos _ ∅,Int.fmod_lt_of_pos _ ∅]
|less=>show dW (if i<j then 1 else 0);split<;>exact#[∅,∅]
def D6(h:dW i):small i=true:=by exact zP h.1 (Int.lt_trans h.2 ∅)
def tv(a:∀i,dW i->dW (f i)):∀(n:Nat)(i:Int),dW i->dW (iter f n i)
|0=>λ_ h=>h
|n+1=>λi h=>a _ (tv a n i h)
abbrev eI(a:Nat->Tm->Nat->H->Res V)(N:Nat)(t:Tm)(d:Nat)(U:H)(v:V):Prop:=∀n,N<=n->∃τ,a n t d U=.ok v (U++τ)
def eI.more{a:Nat->Tm->Nat->H->Res V}{N b:Nat}{t:Tm}(h:eI a N t d U v)(c:N<=b):eI a b t d U v:=λn e=>h n (bZ c e)
section
variable(ev:Nat->Tm->Nat->H->Res V)(bf:H->V->Str->Tm->Nat->Prop)(ok:H->Prop)
abbrev RZ:Prop:=∀{U d es x v},U[d]?=some (.az es)->dn es x=some v->eI ev 1 (.name x) d U v
abbrev TU:Prop:=∀{U d N u x y i j},ok U->1<=N->eI ev N x d U (.int i)->(∀τ,eI ev N y d (U++τ) (.int j))->small i=true->eI ev (N+2) (.ak u x y) d U (.int (jV u i j))
abbrev R0:Prop:=∀{U d N x y z i v},ok U->1<=N->eI ev N x d U (.int i)->(∀τ,eI ev N (if i=0 then z else y) d (U++τ) v)->eI ev (N+2) (.when x y z) d U v
abbrev R1:Prop:=∀{U d N x p q u v es},ok U->1<=N->U[d]?=some (.az es)->es.length<=aJ->eI ev N p d U u->(∀τ,eI ev N q (U++τ).length (U++τ++[.az (bp es x u)]) v)->eI ev (N+2) (.aY x p q) d U v
abbrev Qm:Prop:=∀{U d N k x p q es i}{f:Int->Int},ok U->1<=N->U[d]?=some (.az es)->es.length<=aJ->(0<=k/\k<=9)->(∀i,dW i->dW (f i))->dW i->eI ev N p d U (.int i)->(∀τ i,dW i->eI ev N q (U++τ).length (U++τ++[.az (bp es x (.int i))]) (.int (f i)))->eI ev (N+2) (.bg k x p q) d U (.int (iter f k.toNat i))
abbrev R2:Prop:=∀{U d N g x b p q v es},ok U->1<=N->U[d]?=some (.az es)->es.length<=aJ->(∀τ a,bf (U++τ) a x p d->eI ev N q (U++τ).length (U++τ++[.az (bp es g a)]) v)->eI ev (N+2) (.def_ g x b p q) d U v
abbrev TV:Prop:=∀{U d N g x p body b es a c u v},ok U->1<=N->U[d]?=some (.az es)->dn es g=some c->bf U c x body b->U[b]?=some (.az a)->a.length<=aJ->eI ev N p d U u->(∀τ,eI ev N body (U++τ).length (U++τ++[.az (bp a x u)]) v)->eI ev (N+2) (.use g p) d U v
end
structure xU(ev:Nat->Tm->Nat->H->Res V)(bf:H->V->Str->Tm->Nat->Prop)(ok:H->Prop):Prop where
 add:∀{U τ},ok U->ok (U++τ)
 uK:∀{U τ v x b d},bf U v x b d->bf (U++τ) v x b d
 new:∀U x b d,∃τ cv,bf (U++τ) cv x b d
 num:∀{U d i},eI ev 1 (.num i) d U (.int (i.fmod 1000003))
 name:RZ ev
 ak:TU ev ok
 when:R0 ev ok
 aY:R1 ev ok
 bg:Qm ev ok
 def_:R2 ev bf ok
 use:TV ev bf ok
section
variable{ev:Nat->Tm->Nat->H->Res V}{bf:H->V->Str->Tm->Nat->Prop}{ok:H->Prop}
abbrev GU(ev:Nat->Tm->Nat->H->Res V)(bf:H->V->Str->Tm->Nat->Prop)(R:Nat)(U:H)(es:List (Str×V))(J:Str->Dv)(x:Str):Mn->Prop
|.val _=>∃i,J x=.num i/\dn es x=some (.int i)/\dW i
|.fn _ _=>∃F b p body c a,J x=.fn F/\dn es x=some b/\bf U b p body c/\U[c]?=some (.az a)/\a.length<=aJ/\(∀i,dW i->dW (F i))/\∀τ i,dW i->eI ev R body (U++τ).length (U++τ++[.az (bp a p (.int i))]) (.int (F i))
abbrev Env(ev:Nat->Tm->Nat->H->Res V)(bf:H->V->Str->Tm->Nat->Prop)(R:Nat)(a:Sc)(U:H)(es:List (Str×V))(J:Str->Dv):Prop:=∀x e,look a x=some e->GU ev bf R U es J x e.m
variable(K:xU ev bf ok)
include K
def Env.grow(h:Env ev bf R Γ U es J)(d:R<=R'):Env ev bf R' Γ (U++τ) es J:=λx e c=>by
 have:=h x e c;obtain⟨w,y,f⟩:=e;clear c;cases f with
|val k=>exact this
|fn a r=>
  refine Aw (this) λF g p body j b l m n o q s t=>#[F,g,p,body,j,b,l,m,K.uK n,old o,q,s,λu i v=>?_];rw[List.append_assoc];exact(t (τ++u) i v).more d
omit K in
def Env.put(h:Env ev bf R Γ U es J)(o:GU ev bf R U (bp es e.x v) (upd J e.x dv) e.x e.m):Env ev bf R (Γ++[e]) U (bp es e.x v) (upd J e.x dv):=λx j b=>by
 rw[iD] at b;cases hx:(e.x==x) with
|true=>
  replace b:=(if_pos rfl)▸(hx▸b);(apply fg b)
  (refine(beq_iff_eq.mp hx)▸?_);exact o
|false=>
  replace b:=hx▸b;have:=h x j b;have l:dn (bp es e.x v) x=dn es x:=by rw[n9,hx];rfl
  have n:upd J e.x dv x=J x:=by unfold upd;(refine hx▸?_);rfl
  obtain⟨u,w,q⟩:=j;clear b;cases q with
  |val k=>obtain⟨i,c,d,f⟩:=this;exact#[i,n.trans c,l.trans d,f]
  |fn a r=>obtain⟨F,s,p,body,t,g,c,d,f⟩:=this;exact#[F,s,p,body,t,g,n.trans c,l.trans d,f]
omit K in
def Env.num(h:Env ev bf R Γ U es J)(a:dW i):Env ev bf R (Γ++[#[x,l,.val k]]) U (bp es x (.int i)) (upd J x (.num i)):=
 Env.put h #[i,by unfold upd;rw[beq_self_eq_true];rfl,by rw[n9,beq_self_eq_true];rfl,a]
end
section
variable{P:Prog}{sc:List Int}
def fK(U τ a:H):U++τ++a=U++(τ++a):=List.append_assoc _ _ _
def MT(B:oX P){s a:Nat}{m:Int}:
  xU (λn t d U=>av P sc n 27 [.ref s,t.ag,.ref d] U) (λ_ v x b d=>v=.ay [.str x,b.ag,.ref d]) (λU=>Self U s a m) where
 add h:=h.add
 uK h:=h
 new U x b d:=#[[],_,rfl]
 num {U d i} n hn:=by
  obtain⟨k,rfl⟩:∃k,n=k+1:=#[n-1,~~~cm (a7 iW rfl) (a7 tB rfl hn)];exact#[[],by rw[List.append_nil];exact HO B U]
 name hd u n hn:=by
  obtain⟨k,rfl⟩:∃k,n=k+1:=#[n-1,~~~cm (a7 iW rfl) (a7 tB rfl hn)];exact#[[],by rw[List.append_nil];exact GR B hd u]
 ak S hN h1 h2 hi n hn:=by
  obtain⟨k,rfl⟩:∃k,n=k+2:=#[n-2,~~~cm (a7 rv rfl) (aM tC rfl hn)];obtain⟨l,o⟩:=h1 (k+1) (cE (bG ()));obtain⟨r,c⟩:=h2 l (k+1) (cE (bG ()));exact#[_,by rw[←fK];exact HP B S o S.add c hi]
 when S hN h1 h2 n hn:=by
  obtain⟨k,rfl⟩:∃k,n=k+1:=#[n-1,~~~cm (a7 iW rfl) (aM zt rfl hn)];obtain⟨l,o⟩:=h1 k (cE (bG ()));obtain⟨r,c⟩:=h2 l k (cE (bG ()));exact#[_,by rw[←fK];exact GS B S o S.add c]
 aY S hN hd hl h1 h2 n hn:=by
  obtain⟨k,rfl⟩:∃k,n=k+2:=#[n-2,~~~cm (a7 rv rfl) (aM tC rfl hn)];obtain⟨l,o⟩:=h1 (k+1) (cE (bG ()));obtain⟨r,c⟩:=h2 l (k+1) (cE (bG ()));exact#[_,by rw[←fK,←fK];exact HQ B S o S.add (old hd) hl c]
 bg {U d N m' x p q es i f} S hN hd hl hk hf hi h1 h2 n hn:=by
  obtain⟨k,rfl⟩:∃k,n=k+2:=#[n-2,~~~cm (a7 rv rfl) (aM tC rfl hn)];obtain⟨l,o⟩:=h1 (k+1) (cE (bG ()))
  obtain⟨v,z,c,r,u,w⟩:=F5 B S #[hk.1,~~~bw tD rfl hk.2] o (λj v s'=>∃τ,v=.int (iter f j i)/\s'=U++τ) #[l,rfl,rfl] (λj v s' A y=>by
   obtain⟨τ,rfl,rfl⟩:=y;obtain⟨r,c⟩:=h2 τ (iter f j i) (tv hf _ _ hi) (k+1) (cE (bG ()))
   exact#[#[_,S.add],es,old hd,hl,_,_,c,_,rfl,by rw[fK,fK]])
  rw[u,w] at c;exact#[r,c]
 def_ {U d N g x kd p q v es} S hN hd hl h n hn:=by
  obtain⟨k,rfl⟩:∃k,n=k+2:=#[n-2,~~~cm (a7 rv rfl) (aM tC rfl hn)];obtain⟨τ,e⟩:=h [] _ rfl (k+1) (cE (bG ()));rw[List.append_nil] at e;exact#[_,by rw[←fK];exact HR B S hd hl e]
 use S hN hd hg hc hd' hl h1 h2 n hn:=by obtain⟨k,rfl⟩:∃k,n=k+2:=#[n-2,~~~cm (a7 rv rfl) (aM tC rfl hn)];subst hc;obtain⟨l,o⟩:=h1 (k+1) (cE (bG ()));obtain⟨r,c⟩:=h2 l (k+1) (cE (bG ()));exact#[_,by rw[←fK,←fK];exact HS B S o S.add (old hd) hg (old hd') hl c]
end
abbrev Tm.cost:Tm->(Str->Int)->Int
|.num _,_=>1
|.name _,_=>1
|.un _ a,d=>1+(a.cost d+0)
|.use g a,d=>1+d g+a.cost d
|.ak _ a b,d=>1+(a.cost d+(b.cost d+0))
|.aY _ a b,d=>1+(a.cost d+(b.cost d+0))
|.bg k _ a b,d=>1+a.cost d+k*b.cost d
|.def_ g _ _ a b,d=>1+b.cost (λy=>if g==y then a.cost d else d y)
|.when a b c,d=>1+(a.cost d+(b.cost d+(c.cost d+0)))
def m7:(Tm.num u1).cost φ=1:=rfl
def m8:(Tm.name u1).cost φ=1:=rfl
def m9:(Tm.un u1 a).cost φ=1+(a.cost φ+0):=rfl
def nc:(Tm.use g a).cost φ=1+φ g+a.cost φ:=rfl
def nf:(Tm.ak u1 a b).cost φ=1+(a.cost φ+(b.cost φ+0)):=rfl
def ng:(Tm.aY u1 a b).cost φ=1+(a.cost φ+(b.cost φ+0)):=rfl
def nh:(Tm.bg k u1 a b).cost φ=1+a.cost φ+k*b.cost φ:=rfl
def ni:(Tm.def_ g u1 u2 a b).cost φ=1+b.cost (λy=>if g==y then a.cost φ else φ y):=rfl
def nj:(Tm.when a b c).cost φ=1+(a.cost φ+(b.cost φ+(c.cost φ+0))):=rfl
def Oi{I:H->Prop}(h:∀U τ,I U->I (U++τ)){f:V->M (Option V)}{g:Tm->V}(i:∀t∈ts,∀U,I U->∃τ,f t.ag U=.ok (some (g t)) (U++τ)):
  ∀(rest a:List Tm)(U:H),ts=a++rest->I U->U[l]?=some (.af (ts.map Tm.ag))->∃τ,dG (.live l) f (rest.length+1) a.length U=.ok (rest.map g) (U++τ):=by
 intro rest
 induction rest with
|nil=>
  intro a U b d c;refine#[[],?_];rw[List.append_nil];exact kM (by(refine jz▸?_;refine(aN (d8 c))▸?_);simp[M.pure,b])
|cons t rest j=>
  intro a U b d c;obtain⟨τ,m⟩:=i t (by(refine b▸?_);simp) U d;obtain⟨n,e⟩:=j (a++[t]) (U++τ) (by(refine b▸?_);simp) (h _ _ d) (old c);refine#[τ++n,?_];replace e:=(List.length_singleton)▸((List.length_append)▸e);have:=gF (k:=a.length) (U:=U) (ae:=U) (v:=t.ag) (by(refine jz▸?_;refine(aN (d8 c))▸?_);simp[M.pure,b]) m e;rw[List.length_cons,this,List.append_assoc];rfl
def F7{C:Ctx}{L:aP}{c:Nat}{U:H}:aj C (.new c) L U=.ok (.ref (U.length+1)) (U++[.dM 0]++[.inst c U.length]):=by rw[M7];show dB (.inst c U.length) (U++[.dM 0])=_;show Res.ok (V.ref (U++[O.dM 0]).length) _=_;rw[List.length_append];rfl
def yM{c:Nat}{U:H}:Self (U++[.dM 0]++[.inst c U.length]) (U.length+1) U.length 0:=by refine#[#[c,?_],old bA];have:=bA (U:=U++[O.dM 0]) (o:=O.inst c U.length);rw[List.length_append] at this;exact this
def TX{C:Ctx}{L:aP}{U ae ao b9:H}{a b c:E}(d:aj C a L U=.ok (.bool true) ae)(e:aj C b L ae=.ok (.bool true) ao)(f:aj C c L ao=.ok (.bool true) b9):aj C (.and {a,b,c}) L U=.ok (.bool true) b9:=by rw[l9,vB,aN d,sM,aN (show M.pure true ae=.ok true ae from rfl),if_pos rfl,vB,aN e,sM,aN (show M.pure true ao=.ok true ao from rfl),if_pos rfl,yT,aN f];rfl
class inductive HG:Nat->Sc->Lv->Bool->Tm->Kd->Prop
|num {d Γ l f i}:HG d Γ l f (.num i) .aD
|name {d Γ l f x k}:look Γ x=some #[x,l,.val k]->HG d Γ l f (.name x) k
|kB {d Γ f x}:look Γ x=some #[x,.z,.val .ba]->HG d Γ .o f (.un .hole (.name x)) .aD
|la {d Γ f x}:look Γ x=some #[x,.o,.val .aD]->HG d Γ .z f (.un .bK (.name x)) .ba
|lb {d Γ f i}:HG d Γ .z f (.un .bK (.num i)) .ba
|lp {d Γ f i}:HG d Γ .z f (.un .lift (.num i)) .ba
|when {d Γ l f a b c k}:HG d Γ l f a .aD->HG d Γ l f b k->HG d Γ l f c k->HG (d+1) Γ l f (.when a b c) k
|use {d Γ l f g a ka k}:look Γ g=some #[g,l,.fn ka k]->HG d Γ l f a ka->HG (d+1) Γ l f (.use g a) k
|aY {d Γ l f x a b k k'}:HG d Γ l f a k->HG d (Γ++[#[x,l,.val k]]) l f b k'->HG (d+1) Γ l f (.aY x a b) k'
|bg {d Γ l f n x a b k}:(0<=n/\n<=9)->HG d Γ l f a k->HG d (Γ++[#[x,l,.val k]]) l f b k->HG (d+1) Γ l f (.bg n x a b) k
|def_ {d Γ l f g x a b ka k k'}:(l=.o->ka=.aD/\k=.aD)->HG d (Γ++[#[x,l,.val ka]]) l false a k->HG d (Γ++[#[g,l,.fn ka k]]) l f b k'->HG (d+1) Γ l f (.def_ g x ka.s a b) k'
|bK {d Γ f a}:HG d Γ .o false a .aD->HG (d+1) Γ .z f (.un .bK a) .ba
|hole {d Γ f a}:HG d Γ .z false a .ba->HG (d+1) Γ .o f (.un .hole a) .aD
|lift {d Γ f a}:HG d Γ .z f a .aD->HG (d+1) Γ .z f (.un .lift a) .ba
|run {d Γ a}:HG d Γ .z true a .ba->HG (d+1) Γ .z true (.un .run a) .aD
|ak {d Γ l f w a b}:HG d Γ l f a .aD->HG d Γ l f b .aD->HG (d+1) Γ l f (.ak w a b) .aD
|kept {d Γ f x g a b}:HG (d-1) Γ .o false a .aD->HG (d-1) (Γ++[#[x,.o,.val .aD]]++[#[g,.z,.val .ba]]) .o false b .aD->HG (d+1) Γ .o f (.aY x a (.un .hole (.aY g (.un .bK (.name x)) (.un .bK b)))) .aD
|twice {d Γ f x g a y i b c}:HG (d-1) Γ .o false a .aD->HG 0 (Γ++[#[x,.o,.val .aD]]++[#[g,.z,.val .ba]]++[#[y,.o,.val .aD]]) .o false b .aD->HG (d-2) (Γ++[#[x,.o,.val .aD]]++[#[g,.z,.val .ba]]++[#[y,.o,.val .aD]]) .o false c .aD->
   HG (d+1) Γ .o f (.aY x a (.un .hole (.aY g (.un .bK (.name x)) (.un .bK (.aY y (.num i) (.ak .sum b c)))))) .aD
def UT:Gr HG:=#[.num,.name,.kB,.la,.lb,.lp,.when,.use,.aY,.bg,.def_,.bK,.hole,.lift,.run,.ak,.kept,.twice]
structure Sg where
 k:Int
 fl:Bool
 c:Int
set_option genCtorIdx false in
inductive Bv where|num (i:Int)|pc (p:Tm)
abbrev Bv.n:Bv->Int
|.num i=>i|.pc _=>0
abbrev Bv.p:Bv->Tm
|.num _=>.num 0|.pc p=>p
abbrev Bv.v:Bv->V
|.num i=>.int i|.pc p=>p.ag
set_option genCtorIdx false in
inductive Sv where|no|val (b:Bv)|fn (F:Bv->Sg->Bv×Sg)|nm (y:Str)
abbrev Sv.b:Sv->Bv
|.val b=>b|_=>.num 0
abbrev Sv.f:Sv->Bv->Sg->Bv×Sg
|.fn F=>F|_=>λb s=>(b,s)
abbrev Sv.y:Sv->Str
|.nm y=>y|_=>""
abbrev bM(a:Str->Sv)(x:Str)(v:Sv):Str->Sv:=λy=>if x==y then v else a y
abbrev dm(f:Bv->Sg->Bv×Sg):Nat->Bv×Sg->Bv×Sg
|0,r=>r
|n+1,r=>dm f n (f r.1 r.2)
abbrev Sg.new(s:Sg):Sg:=#[s.k+1,s.fl,s.c]
abbrev Tm.eO(p:Tm):Int:=p.cost λ_=>0
abbrev iP(p:Tm)(s:Sg):Bv×Sg:=
 if 2000<p.size∨30<p.depth then(.pc (.num 0),#[s.k,true,s.c+p.size]) else(.pc p,#[s.k,s.fl,s.c+p.size])
abbrev lG(p:Tm)(s:Sg):Bv×Sg:=
 if 5000<s.c+p.eO then(.num 0,#[s.k,s.fl,s.c+p.eO]) else(.num (p.den λ_=>.no),#[s.k,s.fl,s.c+p.eO])
abbrev SB(m:Sg->Bv×Sg)(f:Bv->Sg->Bv×Sg):Sg->Bv×Sg:=λs=>f (m s).1 (m s).2
abbrev SR(b:Bv):Sg->Bv×Sg:=λs=>(b,s)
abbrev sd:Tm->(Str->Sv)->Lv->Sg->Bv×Sg
|.num i,_,l=>match l with
  |.z=>SR (.num (i.fmod 1000003))
  |.o=>SR (.pc (.num i))
|.name x,d,l=>match l with
  |.z=>SR (d x).b
  |.o=>SR (.pc (.name (d x).y))
|.un w a,d,_=>match w with
  |.bK=>λs=>if 5000<s.c then(.pc (.num 0),s) else SB (sd a d .o) (λu=>iP u.p) s
  |.hole=>sd a d .z
  |.lift=>SB (sd a d .z) λu=>SR (.pc (.num u.n))
  |.run=>SB (sd a d .z) λu=>lG u.p
|.use g a,d,l=>match l with
  |.z=>SB (sd a d .z) (d g).f
  |.o=>SB (sd a d .o) λu=>SR (.pc (.use (d g).y u.p))
|.ak w a b,d,l=>match l with
  |.z=>SB (sd a d .z) λu=>SB (sd b d .z) λv=>SR (.num (jV w u.n v.n))
  |.o=>SB (sd a d .o) λu=>SB (sd b d .o) λv=>SR (.pc (.ak w u.p v.p))
|.when a b c,d,l=>match l with
  |.z=>SB (sd a d .z) λu=>if u.n=0 then sd c d .z else sd b d .z
  |.o=>SB (sd a d .o) λu=>SB (sd b d .o) λv=>SB (sd c d .o) λw=>SR (.pc (.when u.p v.p w.p))
|.aY x a b,d,l=>match l with
  |.z=>SB (sd a d .z) λu=>sd b (bM d x (.val u)) .z
  |.o=>λs=>SB (sd a d .o) (λu=>SB (sd b (bM d x (.nm (vn (s.k+1)))) .o) λv=>SR (.pc (.aY (vn (s.k+1)) u.p v.p))) s.new
|.bg n x a b,d,l=>match l with
  |.z=>λs=>dm (λu=>sd b (bM d x (.val u)) .z) n.toNat (sd a d .z s)
  |.o=>λs=>SB (sd a d .o) (λu=>SB (sd b (bM d x (.nm (vn (s.k+1)))) .o) λv=>SR (.pc (.bg n (vn (s.k+1)) u.p v.p))) s.new
|.def_ g x e a b,d,l=>match l with
  |.z=>sd b (bM d g (.fn λu=>sd a (bM d x (.val u)) .z)) .z
  |.o=>λs=>SB (sd a (bM d x (.nm (vn (s.k+1+1)))) .o) (λu=>SB (sd b (bM d g (.nm (vn (s.k+1)))) .o) λv=>SR (.pc (.def_ (vn (s.k+1)) (vn (s.k+1+1)) e u.p v.p))) s.new.new
end Qh
set_option tactic.hygienic true
namespace Qh
open PySem
inductive Pm where|v|f
@[reducible]def Dm:=Str->Option Pm
abbrev cV(a:Dm)(x:Str)(m:Pm):Dm:=λy=>if x==y then some m else a y
class inductive eA(u:Bool):Dm->Tm->Prop
|num {Δ i}:eA u Δ (.num i)
|name {Δ x}:Δ x=some .v->eA u Δ (.name x)
|use {Δ g a}:Δ g=some .f->eA u Δ a->eA u Δ (.use g a)
|ak {Δ w a b}:eA u Δ a->eA u Δ b->eA u Δ (.ak w a b)
|when {Δ a b c}:eA u Δ a->eA u Δ b->eA u Δ c->eA u Δ (.when a b c)
|aY {Δ x a b}:eA u Δ a->eA u (cV Δ x .v) b->eA u Δ (.aY x a b)
|bg {Δ n x a b}:(0<=n/\n<=9)->eA u Δ a->eA u (cV Δ x .v) b->eA u Δ (.bg n x a b)
|def_ {Δ g x kd a b}:eA u (cV Δ x .v) a->eA u (cV Δ g .f) b->eA u Δ (.def_ g x kd a b)
|un {Δ w a}:u=true->eA u Δ a->eA u Δ (.un w a)
@[reducible]def PD:=eA false
abbrev Dm.le(a b:Dm):Prop:=∀y m,a y=some m->b y=some m
def Dm.le.refl(a:Dm):a.le a:=λ_ _ h=>h
def Dm.le.trans{a b c:Dm}(h:a.le b)(d:b.le c):a.le c:=λy m q=>d y m (h y m q)
def Dm.le.upd{Δ bV:Dm}(h:Δ.le bV)(x:Str)(m:Pm):(cV Δ x m).le (cV bV x m):=λy m' q=>by
 unfold cV at q ⊢
 split
 ·rename_i e;rw[if_pos e] at q;exact q
 ·rename_i e;rw[if_neg e] at q;exact h y m' q
def Dm.le.new{Δ:Dm}{x:Str}(m:Pm)(h:Δ x=none):Δ.le (cV Δ x m):=λy m' q=>by
 unfold cV
 split
 ·rename_i e;rw[←beq_iff_eq.mp e,h] at q;exact bR q
 ·exact q
def eA.mono{q:Bool}{c:Dm}{p:Tm}(h:eA q c p):∀d:Dm,c.le d->eA q d p:=by
 induction h with
|num=>exact λ_ _=>.num
|name h=>exact λ_ q=>.name (q _ _ h)
|use h _ e=>exact λ_ q=>.use (q _ _ h) (e _ q)
|ak _ _ a b=>exact λ_ q=>.ak (a _ q) (b _ q)
|when _ _ _ a b f=>exact λ_ q=>.when (a _ q) (b _ q) (f _ q)
|aY _ _ a b=>exact λ_ q=>.aY (a _ q) (b _ (q.upd _ _))
|bg g _ _ a b=>exact λ_ q=>.bg g (a _ q) (b _ (q.upd _ _))
|def_ _ _ a b=>exact λ_ q=>.def_ (a _ (q.upd _ _)) (b _ (q.upd _ _))
|un h _ a=>exact λ_ q=>.un h (a _ q)
abbrev nk(a:Str->Nat)(x:Str)(n:Nat):Str->Nat:=λy=>if x==y then n else a y
abbrev Tm.fr:Tm->(Str->Nat)->Nat
|.num _,_=>1
|.name _,_=>1
|.un _ a,d=>1+a.fr d
|.use g a,d=>1+max (a.fr d) (d g)
|.ak _ a b,d=>1+max (a.fr d) (b.fr d)
|.aY _ a b,d=>1+max (a.fr d) (b.fr d)
|.bg _ _ a b,d=>1+max (a.fr d) (b.fr d)
|.def_ g _ _ a b,d=>1+b.fr (nk d g (a.fr d))
|.when a b c,d=>1+max (a.fr d) (max (b.fr d) (c.fr d))
def nq{a:Int}{b:Str->Nat}:(Tm.num a).fr b=1:=rfl
def nr{a:Str}{b:Str->Nat}:(Tm.name a).fr b=1:=rfl
def lJ{c:U1}{a:Tm}{b:Str->Nat}:(Tm.un c a).fr b=1+a.fr b:=rfl
def nu{g:Str}{a:Tm}{b:Str->Nat}:(Tm.use g a).fr b=1+max (a.fr b) (b g):=rfl
def nv{d:U2}{a:Tm}{b:Tm}{c:Str->Nat}:(Tm.ak d a b).fr c=1+max (a.fr c) (b.fr c):=rfl
def nw{d:Str}{a:Tm}{b:Tm}{c:Str->Nat}:(Tm.aY d a b).fr c=1+max (a.fr c) (b.fr c):=rfl
def nx{d:Int}{e:Str}{a:Tm}{b:Tm}{c:Str->Nat}:(Tm.bg d e a b).fr c=1+max (a.fr c) (b.fr c):=rfl
def ny{g:Str}{d:Str}{e:Str}{a:Tm}{b:Tm}{c:Str->Nat}:(Tm.def_ g d e a b).fr c=1+b.fr (nk c g (a.fr c)):=rfl
def nz{a:Tm}{b:Tm}{c:Tm}{d:Str->Nat}:(Tm.when a b c).fr d=1+max (a.fr d) (max (b.fr d) (c.fr d)):=rfl
abbrev dep(u Φ:Nat):Nat:=if u=0 then 0 else u+Φ
abbrev Below(a:Dm)(k:Int):Prop:=∀y m,a y=some m->∃i:Int,y=vn i/\1<=i/\i<=k
def Below.up{a:Dm}{k k':Int}(h:Below a k)(hk:k<=k'):Below a k':=λy m q=>let #[i,e,h1,h2]:=h y m q;#[i,e,h1,di h2 hk]
abbrev ie(a:Dm):Kd->Bv->Prop
|.aD,b=>∃i,b=.num i/\dW i
|.ba,b=>∃p,b=.pc p/\PD a p/\p.size<=2000/\p.depth<=30/\∀c,p.fr c<=8*p.depth
def ie.up{a c:Dm}{k:Kd}{b:Bv}(h:ie a k b)(q:a.le c):ie c k b:=by
 cases k with
|aD=>exact h
|ba=>obtain⟨p,d,e,f⟩:=h;exact#[p,d,e.mono _ q,f]
structure Sg.le(w:Int)(s s':Sg):Prop where
 k:s.k<=s'.k
 w:s'.k<=s.k+w
 c:s.c<=s'.c
 fl:s.fl=true->s'.fl=true
def Sg.le.refl(s:Sg):s.le 0 s:=#[bk _,~~~bw 103283692104 rfl,bk _,id]
def Sg.le.trans{w e a:Int}{s s' b:Sg}(h:s.le w s')(d:s'.le e b)(f:w+e<=a):s.le a b:=#[di h.k d.k,by have g:=h.w;have i:=d.w;exact jW 0x4e34c04904904904920538140f1413cd44505044c rfl f g i,di h.c d.c,λq=>d.fl (h.fl q)]
def Sg.le.up{w a:Int}{s s':Sg}(h:s.le w s')(b:w<=a):s.le a s':=#[h.k,by have:=h.w;exact kH 0x138d30124124124814e3c504f34c rfl b this,h.c,h.fl]
def Sg.le.new(s:Sg):s.le 1 s.new:=#[by show s.k<=s.k+1;exact bw 104357433928 rfl,bk _,bk _,id]
abbrev TY(V:Int)(b:Dm)(ka k:Kd)(F:Bv->Sg->Bv×Sg):Prop:=∀a:Dm,b.le a->∀u s,ie a ka u->0<=s.k->Below a s.k->ie a k (F u s).1/\s.le V (F u s).2
abbrev uL(V:Int)(a:Dm)(v:Sv):Lv->Mn->Prop
|.z,.val k=>∃b,v=.val b/\ie a k b
|.z,.fn ka k=>∃F,v=.fn F/\TY V a ka k F
|.o,.val _=>∃y,v=.nm y/\a y=some .v
|.o,.fn _ _=>∃y,v=.nm y/\a y=some .f
def uL.up{V d:Int}{e f:Dm}{v:Sv}{l:Lv}{m:Mn}(h:uL V e v l m)(q:e.le f)(g:V<=d):uL d f v l m:=by
 cases l<;>cases m
 ·obtain⟨b,a,c⟩:=h;exact#[b,a,c.up q]
 ·obtain⟨F,a,c⟩:=h;exact#[F,a,λi j u s k n o=>let #[x,y]:=c i (q.trans j) u s k n o;#[x,y.up g]]
 ·obtain⟨y,a,c⟩:=h;exact#[y,a,q _ _ c]
 ·obtain⟨y,a,c⟩:=h;exact#[y,a,q _ _ c]
abbrev Se(V:Int)(a:Sc)(b:Str->Sv)(c:Dm):Prop:=∀x e,look a x=some e->uL V c (b x) e.l e.m
def Se.up{V a:Int}{b:Sc}{c:Str->Sv}{d f:Dm}(h:Se V b c d)(q:d.le f)(g:V<=a):Se a b c f:=λx e i=>(h x e i).up q g
def Se.put{V:Int}{c:Sc}{d:Str->Sv}{b:Dm}(h:Se V c d b){x:Str}{l:Lv}{m:Mn}{v:Sv}(f:uL V b v l m):Se V (c++[#[x,l,m]]) (bM d x v) b:=λy e a=>by
 rw[iD] at a;unfold bM;cases hx:(x==y) with
|true=>rw[hx,if_pos rfl] at a;(apply fg a);rw[if_pos rfl];exact f
|false=>rw[hx] at a;rw[if_neg (by simp)];exact h y e a
abbrev iy(a:Sc)(b:Str->Sv)(c:Str->Nat)(Φ:Nat):Prop:=∀g ka k,look a g=some #[g,.o,.fn ka k]->c (b g).y<=Φ
abbrev iz(a:Sc):Prop:=∀g ka k,look a g≠some #[g,.o,.fn ka k]
abbrev jZ(c:Sc)(d:Str->Sv)(e:Dm)(u D:Nat):Lv->Kd->Bv->Prop
|.z,.aD,b=>∃i,b=.num i/\dW i
|.z,.ba,b=>∃p,b=.pc p/\PD e p/\p.size<=2000/\p.depth<=30/\∀a Φ,iy c d a Φ->p.fr a<=max (8*p.depth) (dep u Φ)
|.o,_,b=>∃p,b=.pc p/\PD e p/\p.depth<=D/\∀a Φ,iy c d a Φ->p.fr a<=max (8*p.depth) (dep u Φ)
abbrev bI(V w:Int)(c:Sc)(u D:Nat)(l:Lv)(t:Tm)(k:Kd):Prop:=∀a b s,Se V c a b->0<=s.k->Below b s.k->jZ c a b u D l k (sd t a l s).1/\s.le w (sd t a l s).2
end Qh
set_option tactic.hygienic false
namespace Qh
open PySem
def Lp{i j:Int}(c:0<=i)(d:0<=j)(h:fW i=fW j):i=j:=by
 refine cb (Int.eq_ofNat_of_zero_le c) λn a=>?_;clear c;subst a;refine cb (Int.eq_ofNat_of_zero_le d) λm a=>?_;clear d;subst a;have h:Str.ofString n.repr=Str.ofString m.repr:=h;rw[Str.ofString_eq_toList,Str.ofString_eq_toList] at h;have f:n.repr.toList.map Char.toNat=m.repr.toList.map Char.toNat:=by
  have:=congrArg (λs:Str=>s.cps.toList) h
  simpa using this
 have e:n.repr.toList=m.repr.toList:=by
  have:=congrArg (List.map Char.ofNat) f
  simpa[List.map_map,Function.comp_def] using this
 rw[Nat.toList_repr,Nat.toList_repr] at e;have:=congrArg (λl=>Nat.ofDigitChars 10 l 0) e;simp only[Nat.ofDigitChars_toDigits (b:=10) ∅ ∅] at this;rw[this]
def GV{i j:Int}(d:0<=i)(e:0<=j)(h:vn i=vn j):i=j:=by
 refine Lp d e ?_;have f:(Str.ofString "v").cps.toList++(fW i).cps.toList=(Str.ofString "v").cps.toList++(fW j).cps.toList:=by
  have:=congrArg (λs:Str=>s.cps.toList) h;rw[←Array.toList_append,←Array.toList_append];exact this
 have c:=List.append_cancel_left f;cases hx:fW i with|mk a=>cases hy:fW j with|mk b=>
 rw[hx,hy] at c;have:a=b:=Array.toList_inj.mp c;rw[this]
end Qh
set_option tactic.hygienic true
namespace Qh
open PySem
def xh(u Φ:Nat):dep u Φ<=u+Φ:=match u with
|0=>gp _
|_+1=>aU _
def wM(h:0<u):dep u Φ=u+Φ:=if_neg (Nat.ne_of_gt h)
def E2(h:u<=u'):dep u Φ<=dep u' Φ:=match u with
|0=>gp _
|u+1=>wM (Nat.lt_of_lt_of_le (Nat.succ_pos u) h)▸Nat.add_le_add_right h Φ
def JS{a b c:Nat}(h:b<=c):max a b<=max a c:=Nat.max_le.mpr #[e9 a c,bZ h (fL a c)]
def xV:1<=max (8*1) x:=bZ ∅ (e9 _ _)
def tw(h:u=0∨u+1<=u'):1+dep u Φ<=max 8 (dep u' Φ):=by
 rcases h with h|h
 ·subst h;exact bZ (nb rfl:1<=8) (e9 _ _)
 ·rw[wM (Nat.lt_of_lt_of_le (Nat.succ_pos u) h)];exact bZ (bZ (Nat.add_le_add_left (xh u Φ) 1) (Nat.add_assoc 1 u Φ▸Nat.add_comm u 1▸Nat.add_le_add_right h Φ)) (fL _ _)
def Below.none(h:Below Δ k)(hk:0<=k)(a:k<j):Δ (vn j)=none:=by
 cases q:Δ (vn j) with
|none=>rfl
|some m=>
  refine ct (h _ _ q) λi e c b=>?_;have:=GV (i:=j) (cD 0x32004904904904920530184d14e84534e rfl a c b) (Int.le_of_lt ()) e;exact absurd (this▸b:j<=k) (Int.not_le.mpr a)
def Below.put(h:Below Δ k)(hj:1<=j/\j<=k)(m:Pm):Below (cV Δ (vn j) m) k:=λy m' q=>by
 unfold cV at q
 split at q
 ·rename_i e;exact#[j,(beq_iff_eq.mp e).symm,hj]
 ·exact h y m' q
def kQ:cV Δ x m x=some m:=by unfold cV;(refine(if_pos (beq_self_eq_true x))▸?_;with_reducible rfl)
def MU:bM η x v x=v:=by unfold bM;(refine(if_pos (beq_self_eq_true x))▸?_;with_reducible rfl)
def R3(h:look Γ x=some e):e∈Γ/\e.x=x:=by unfold look at h;exact#[List.mem_reverse.mp (List.mem_of_find?_eq_some h),beq_iff_eq.mp (List.find?_some (p:=λe:Ent=>e.x==x) h)]
section
variable{Γ:Sc}{η:Str->Sv}{Δ:Dm}{φ:Str->Nat}{Φ u u' D D':Nat}{k:Kd}{b:Bv}
def R4(Γ:Sc)(η:Str->Sv)(φ:Str->Nat):∃Φ,iy Γ η φ Φ:=by
 have h:∀l:List Ent,∃Φ,∀e∈l,φ (η e.x).y<=Φ:=by
  intro l
  induction l with
  |nil=>exact#[0,λ_ h=>nomatch h]
  |cons e l a=>
   obtain⟨Φ,h⟩:=a;refine#[max Φ (φ (η e.x).y),λc d=>?_];rcases List.mem_cons.mp d with rfl|q
   ·exact aM wd rfl
   ·have:=h c q;(exact bZ () (e9 _ _))
 obtain⟨Φ,h⟩:=h Γ;exact#[Φ,λg i k f=>h _ (R3 f).1]
def iy.val(h:iy Γ η φ Φ)(x:Str)(l:Lv)(k:Kd)(v:Sv):iy (Γ++[#[x,l,.val k]]) (bM η x v) φ Φ:=λg c d a=>by
 rw[iD] at a;unfold bM;cases hx:(x==g) with
|true=>(replace a:=(if_pos rfl)▸(hx▸a));cases a
|false=>(replace a:=hx▸a);rw[if_neg (by simp)];exact h g c d a
def iy.fz(h:iy Γ η φ Φ)(x:Str)(a r:Kd)(v:Sv):iy (Γ++[#[x,.z,.fn a r]]) (bM η x v) φ Φ:=λg d e c=>by
 rw[iD] at c;unfold bM;cases hx:(x==g) with
|true=>(replace c:=(if_pos rfl)▸(hx▸c));cases c
|false=>(replace c:=hx▸c);rw[if_neg (by simp)];exact h g d e c
def jZ.up{l:Lv}(h:jZ Γ η Δ u D l k b)(e:u<=u')(i:D<=D'):jZ Γ η Δ u' D' l k b:=by
 cases l with
|z=>cases k with
  |aD=>exact h
  |ba=>
   exact qe (h) λp a c f g d=>#[p,a,c,f,g,λφ Φ q=>bZ (d φ Φ q) (JS (E2 e))]
|o=>
  exact oE (h) λp a c f d=>#[p,a,c,by(exact bZ () ()),λφ Φ q=>bZ (d φ Φ q) (JS (E2 e))]
def jZ.ok(h:jZ Γ η Δ 0 D .z k b):ie Δ k b:=by
 cases k with
|aD=>exact h
|ba=>
  refine qe (h) λp a c d f g=>#[p,a,c,d,f,λφ=>?_];refine cb (R4 Γ η φ) λΦ q=>?_;have:=g φ Φ q;have e:dep 0 Φ=0:=rfl;exact bD 0x436830804900900904920124024124124814338436830680e rfl this e
def ie.gd(h:ie Δ k b):jZ Γ η Δ u D .z k b:=by
 cases k with
|aD=>exact h
|ba=>
  exact qe (h) λp a c d e f=>#[p,a,c,d,e,λφ Φ q=>by have:=f φ;(exact bZ () (e9 _ _))]
def jZ.back(h:jZ (Γ++[#[x,l',m]]) (bM η x v) Δ u D l k b)(f:∀φ Φ,iy Γ η φ Φ->iy (Γ++[#[x,l',m]]) (bM η x v) φ Φ):jZ Γ η Δ u D l k b:=by
 cases l with
|z=>cases k with
  |aD=>exact h
  |ba=>
   exact qe (h) λp a c d g e=>#[p,a,c,d,g,λφ Φ q=>e φ Φ (f φ Φ q)]
|o=>
  exact oE (h) λp a c d e=>#[p,a,c,d,λφ Φ q=>e φ Φ (f φ Φ q)]
def bI.up{V w a:Int}{l:Lv}(h:bI V w Γ u D l t k)(f:u<=u')(g:D<=D')(i:w<=a):bI V a Γ u' D' l t k:=λη Δ s c d e=>#[(h η Δ s c d e).1.up f g,(h η Δ s c d e).2.up i]
end
abbrev nA:Dv->Prop
|.no=>True
|.num i=>dW i
|.fn F=>∀i,dW i->dW (F i)
def uM:dW 0:=#[∅,∅]
def nA.upd(h:∀x,nA (J x))(a:nA v):∀y,nA (upd J x v y):=λy=>by
 unfold Qh.upd;split
 ·exact a
 ·exact h y
def kh:∀(t:Tm)(J:Str->Dv),(∀x,nA (J x))->dW (t.den J)
|.num i=>λ_ _=>#[Int.fmod_nonneg_of_pos _ ∅,Int.fmod_lt_of_pos _ ∅]
|.name x=>λJ h=>by
  have:=h x;show dW (match J x with|.num i=>i|_=>0)
  revert this;generalize J x=v;intro this
  cases v with
  |num i=>exact this
  |no=>exact uM
  |fn F=>exact uM
|.un _ a=>λJ h=>kh a J h
|.use g a=>λJ h=>by
  have:=h g;have e:=kh a J h;show dW (match J g with|.fn F=>F (a.den J)|_=>0)
  revert this;generalize J g=v;intro this
  cases v with
  |num i=>exact uM
  |no=>exact uM
  |fn F=>exact this _ e
|.ak w a b=>λJ h=>zk _ _ _
|.aY x a b=>λJ h=>kh b _ (nA.upd h (kh a J h))
|.bg k x a b=>λJ h=>tv (λi d=>kh b _ (nA.upd h (v:=.num i) d)) _ _ (kh a J h)
|.def_ g x _ a b=>λJ h=>kh b _ (nA.upd h λi d=>kh a _ (nA.upd h d))
|.when a b c=>λJ h=>by
  show dW (if _ then _ else _)
  split
  ·exact kh c J h
  ·exact kh b J h
def E3(h:eA q k p):∀d:Str->Int,(∀x,0<=d x)->1<=p.cost d:=by
 induction h with
|num=>exact λd h=>bk _
|name _=>exact λd h=>bk _
|@un k w a _ _ l=>intro d h;have f:=l d h;show 1<=1+(a.cost d+0);lia
|@use k g a _ _ l=>intro d h;have f:=l d h;have j:=h g;show 1<=1+d g+a.cost d;exact cS 0x134132184124124124814d845320 rfl f j
|@ak k w a b _ _ i e=>intro d h;have f:=i d h;have j:=e d h;show 1<=1+(a.cost d+(b.cost d+0));exact cS Fw rfl f j
|@when k a b c _ _ _ i e o=>intro d h;have f:=i d h;have j:=e d h;have m:=o d h;show 1<=1+(a.cost d+(b.cost d+(c.cost d+0)));exact cD 0x4104180e34c86104904904904920532114d8453a1 rfl f j m
|@aY k x a b _ _ i e=>intro d h;have f:=i d h;have j:=e d h;show 1<=1+(a.cost d+(b.cost d+0));exact cS Fw rfl f j
|@bg k n x a b r _ _ i e=>intro d h;have f:=i d h;have j:=e d h;have m:=Int.mul_nonneg r.1 (di ∅ j);show 1<=1+a.cost d+n*b.cost d;exact cS 0x134132184124124124814c845360 rfl f m
|@def_ k g x s a b _ _ i e=>
  intro d h;have i:=i d h;have e:=e (λy=>if g==y then a.cost d else d y) (λy=>by show 0<=if(g==y)=true then a.cost d else d y;split;(exact Int.le_of_lt ());exact h y);show 1<=1+b.cost _;exact bw 0x4c861049049205321 rfl e
section
variable{V w w' bS bU oY:Int}{Γ:Sc}{u u' mK fU D D' nB Bl:Nat}{k k' ka:Kd}{l:Lv}{t a b c:Tm}{x g:Str}
def Am:bI V 0 Γ u D .z (.num i) .aD:=λd e s f h j=>#[#[_,rfl,Int.fmod_nonneg_of_pos _ ∅,Int.fmod_lt_of_pos _ ∅],.refl _]
def tV(d:1<=D):bI V 0 Γ u D .o (.num i) k:=λe f s h j m=>#[#[_,rfl,.num,d,λn p q=>xV],.refl _]
def F8(h:look Γ x=some #[x,.z,.val k]):bI V 0 Γ u D .z (.name x) k:=λd f s i j m=>by
 refine aQ (i x _ h) λb e hb=>#[?_,.refl _];show jZ Γ d f u D .z k (d x).b
 (refine e▸?_);exact hb.gd
def pZ(h:look Γ x=some #[x,.o,.val k'])(d:1<=D):bI V 0 Γ u D .o (.name x) k:=λi j s f m n=>by
 refine aQ (f x _ h) λy e hb=>#[#[_,rfl,.name (by(refine e▸?_);exact hb),d,λp r q=>xV],.refl _]
def F9:jZ Γ η Δ u D .z .ba (.pc (.num 0)):=#[_,rfl,.num,∅,∅,λd e q=>xV]
def kl(hw:0<=w)(h:bI V w Γ u D .o a k):bI V w Γ u D' .z (.un .bK a) .ba:=λη Δ s h1 h2 h3=>by
 have e:sd (.un .bK a) η .z s=if 5000<s.c then(.pc (.num 0),s) else iP (sd a η .o s).1.p (sd a η .o s).2:=rfl
 refine e▸?_
 split
 ·exact#[F9,(Sg.le.refl _).up hw]
 ·obtain⟨⟨p,e1,g1,g2,g3⟩,hk⟩:=h η Δ s h1 h2 h3;refine e1▸?_;have hc:s.c<=(sd a η .o s).2.c+p.size:=by have:=hk.c;exact cD 0x138d30124124124814d3053a0 rfl this (gg _)
  unfold iP
  split
  ·exact#[F9,#[hk.k,hk.w,hc,λ_=>rfl]]
  ·rename_i hn
   have hn:¬ (2000<p.size∨30<p.depth):=hn;exact#[#[p,rfl,g1,Nat.not_lt.mp λq=>hn (.inl q),Nat.not_lt.mp λq=>hn (.inr q),g3],#[hk.k,hk.w,hc,hk.fl]]
def rR(h:bI V w Γ u D' .z a .ba)(r:30<=D):bI V w Γ u D .o (.un .hole a) k:=λd e s f i j=>by
 obtain⟨⟨p,m,n,v,y,q⟩,hk⟩:=h d e s f i j;exact#[#[p,m,n,by(exact bZ () ()),q],hk]
def GW(h:bI V w Γ u' D' .z a .aD):bI V w Γ u D .z (.un .lift a) .ba:=λd e s f i j=>
 #[#[_,rfl,.num,nb rfl,nb rfl,λm n q=>xV],(h d e s f i j).2]
def TZ(h:bI V w Γ u' D' .z a .ba):bI V w Γ u D .z (.un .run a) .aD:=λd i s j m n=>by
 obtain⟨⟨p,o,q,_⟩,hk⟩:=h d i s j m n;have e:sd (.un .run a) d .z s=lG (sd a d .z s).1.p (sd a d .z s).2:=rfl;refine e▸o▸?_;have f:s.c<=(sd a d .z s).2.c+p.eO:=by have r:=hk.c;have v:=E3 q (λ_=>0) λ_=>bk _;unfold Tm.eO;exact cD 0x138d30124124124814d3053a1 rfl r v
 unfold lG
 split
 ·exact#[#[0,rfl,uM],#[hk.k,hk.w,f,hk.fl]]
 ·exact#[#[_,rfl,kh _ _ λ_=>trivial],#[hk.k,hk.w,f,hk.fl]]
end
end Qh
set_option tactic.hygienic false
namespace Qh
open PySem
section
variable{V w w' bS bU oY:Int}{Γ:Sc}{u u' mK fU D D' nB Bl:Nat}{k k' ka:Kd}{l:Lv}{t a b c:Tm}{x g kd:Str}
def p0{a b c:Nat}(d:1+a<=c)(e:1+b<=c):1+max a b<=c:=by
 rcases Nat.le_total a b with h|h
 ·(refine(Nat.max_eq_right h).symm▸?_);exact e
 ·(refine(Nat.max_eq_left h).symm▸?_);exact d
def lg{a A M e e':Nat}(h:a<=max (8*A) e)(d:1+e<=max 8 e')(f:A<=M):1+a<=max (8*(1+M)) e':=by refine bZ (Nat.add_le_add_left h 1) (p0 (bZ ?_ (e9 _ _)) (bZ d (Nat.max_le.mpr #[bZ (Nat.mul_le_mul_left 8 (eG 1 M)) (e9 _ _),fL _ _])));exact aM 0x101361a0110ca2104920920534c rfl f
def Qo(h:(x==y)=false):bM η x v y=η y:=by unfold bM;(refine h▸?_);rfl
def R5(j:bI V bS Γ mK nB .z a .aD)(hb:bI V bU Γ fU Bl .z b .aD)(m:bS+bU<=w):bI V w Γ u D .z (.ak o a b) .aD:=λd e s f h i=>by
 have ka:=(j d e s f h i).2;have n:=(hb d e (sd a d .z s).2 f (di h ka.k) (i.up ka.k)).2;exact#[#[_,rfl,zk _ _ _],ka.trans n m]
def An(r:bI V bS Γ u D .o a k)(hb:bI V bU Γ u D .o b k)(v:u=0∨u+1<=u')(y:D+1<=D')(z:bS+bU<=w):bI V w Γ u' D' .o (.ak o a b) k':=λd e s h i j=>by
 refine bB λK A=>?_;obtain⟨⟨p,B,C,F,G⟩,ka⟩:=r d e s h i j;obtain⟨⟨q,I,q1,q2,q3⟩,J⟩:=hb d e (sd a d .o s).2 h (di i ka.k) (j.up ka.k);refine A ?_;refine#[#[.ak o p q,by show Bv.pc (.ak o (sd a d .o s).1.p (sd b d .o (sd a d .o s).2).1.p)=_;(refine B▸?_;refine I▸?_);rfl,.ak C q1,iw F q2 y,λm Φ f=>?_],ka.trans J z];have n:=tw (Φ:=Φ) v;exact p0 (lg (G m Φ f) n (e9 _ _)) (lg (q3 m Φ f) n (fL _ _))
def Qp(o:bI V bS Γ mK nB .z a .aD)(hb:bI V bU Γ u D .z b k)(p:bI V bU Γ u D .z c k)(m:bS+bU<=w):bI V w Γ u D .z (.when a b c) k:=λd f s h i j=>by
 have ka:=(o d f s h i j).2;have e:sd (.when a b c) d .z s=(if(sd a d .z s).1.n=0 then sd c d .z else sd b d .z) (sd a d .z s).2:=rfl;refine e▸?_
 split
 ·have:=p d f (sd a d .z s).2 h (di i ka.k) (j.up ka.k);exact#[this.1,ka.trans this.2 m]
 ·have:=hb d f (sd a d .z s).2 h (di i ka.k) (j.up ka.k);exact#[this.1,ka.trans this.2 m]
def Qq(y:bI V bS Γ u D .o a ka)(hb:bI V bU Γ u D .o b k)(z:bI V oY Γ u D .o c k)(A:u=0∨u+1<=u')(B:D+1<=D')(C:bS+bU+oY<=w):bI V w Γ u' D' .o (.when a b c) k':=λd e s h i j=>by
 refine bB λY F=>?_;obtain⟨⟨p,G,I,J,K⟩,ka⟩:=y d e s h i j;obtain⟨⟨q,L,q1,q2,q3⟩,P⟩:=hb d e (sd a d .o s).2 h (di i ka.k) (j.up ka.k);have m:=ka.trans P (bk _);obtain⟨⟨r,Q,R,T,U⟩,X⟩:=z d e (sd b d .o (sd a d .o s).2).2 h (di i m.k) (j.up m.k);refine F ?_;refine#[#[.when p q r,by show Bv.pc (.when (sd a d .o s).1.p (sd b d .o (sd a d .o s).2).1.p (sd c d .o (sd b d .o (sd a d .o s).2).2).1.p)=_;(refine G▸?_;refine L▸?_;refine Q▸?_);rfl,.when I q1 R,JO J q2 T B,λn Φ f=>?_],m.trans X C];have v:=tw (Φ:=Φ) A;exact p0 (lg (K n Φ f) v (e9 _ _)) (p0 (lg (q3 n Φ f) v (bZ (e9 _ _) (fL _ _))) (lg (U n Φ f) v (bZ (fL _ _) (fL _ _))))
def tW(m:bI V bS Γ 0 nB .z a ka)(hb:bI V bU (Γ++[#[x,.z,.val ka]]) u D .z b k)(n:bS+bU<=w):bI V w Γ u D .z (.aY x a b) k:=λd e s h i j=>by
 exact aX (m d e s h i j) λo ka=>aX (hb (bM d x (.val (sd a d .z s).1)) e (sd a d .z s).2 (h.put #[_,rfl,o.ok]) (di i ka.k) (j.up ka.k)) λp q=>#[p.back λr v f=>f.val _ _ _ _,ka.trans q n]
def HU{d:Str->Sv}{e:Dm}{s:Sg}(n:Se V Γ d e)(i:0<=s.k)(j:Below e s.k)(r:bI V bS Γ u D .o a ka)(hb:bI V bU (Γ++[#[x,.o,.val k]]) u D .o b k')(y:1+bS+bU<=w):
  ∃p q,(sd a d .o s.new).1=.pc p/\(sd b (bM d x (.nm (vn (s.k+1)))) .o (sd a d .o s.new).2).1=.pc q/\PD e p/\PD (cV e (vn (s.k+1)) .v) q/\p.depth<=D/\q.depth<=D/\(∀h Φ,iy Γ d h Φ->p.fr h<=max (8*p.depth) (dep u Φ)/\q.fr h<=max (8*q.depth) (dep u Φ))/\
   s.le w (sd b (bM d x (.nm (vn (s.k+1)))) .o (sd a d .o s.new).2).2:=by have m:s.new.k=s.k+1:=rfl;refine bB λK z=>?_;obtain⟨⟨p,A,B,C,F⟩,ka⟩:=r d e s.new n (cS tE rfl i m) (j.up (cS rA rfl m));have G:=ka.k;obtain⟨⟨q,I,q1,q2,q3⟩,J⟩:=hb (bM d x (.nm (vn (s.k+1)))) (cV e (vn (s.k+1)) .v) (sd a d .o s.new).2 ((n.up (Dm.le.new .v (j.none i (bk _))) (bk _)).put #[_,rfl,kQ]) (cD tF rfl i m G) ((j.up (Int.le_of_lt ())).put #[~~~bw mw rfl i,by assumption] _);exact z (#[p,q,A,I,B,q1,C,q2,λh Φ f=>#[F h Φ f,q3 h Φ (f.val _ _ _ _)],((Sg.le.new s).trans ka (bk _)).trans J y])
def tX(j:bI V bS Γ u D .o a ka)(hb:bI V bU (Γ++[#[x,.o,.val k]]) u D .o b k')(m:u=0∨u+1<=u')(n:D+1<=D')(r:1+bS+bU<=w){jq:Kd}:bI V w Γ u' D' .o (.aY x a b) jq:=λd G s v y z=>by
 refine Hb (HU v y z j hb r) λp q A B C q1 F q2 e hk=>#[#[.aY (vn (s.k+1)) p q,by show Bv.pc (.aY _ (sd a d .o s.new).1.p (sd b _ .o (sd a d .o s.new).2).1.p)=_;(refine A▸?_;refine B▸?_);rfl,.aY C q1,iw F q2 n,λh Φ f=>?_],hk];have i:=tw (Φ:=Φ) m;exact p0 (lg (e h Φ f).1 i (e9 _ _)) (lg (e h Φ f).2 i (fL _ _))
def Oj{n:Int}(j:0<=n/\n<=9)(m:bI V bS Γ u D .o a ka)(hb:bI V bU (Γ++[#[x,.o,.val k]]) u D .o b k')(r:u=0∨u+1<=u')(v:D+1<=D')(y:1+bS+bU<=w){jq:Kd}:bI V w Γ u' D' .o (.bg n x a b) jq:=λd J s z A B=>by
 refine Hb (HU z A B m hb y) λp q C F G q1 I q2 e hk=>#[#[.bg n (vn (s.k+1)) p q,by show Bv.pc (.bg n _ (sd a d .o s.new).1.p (sd b _ .o (sd a d .o s.new).2).1.p)=_;(refine C▸?_;refine F▸?_);rfl,.bg j G q1,iw I q2 v,λh Φ f=>?_],hk];have i:=tw (Φ:=Φ) r;exact p0 (lg (e h Φ f).1 i (e9 _ _)) (lg (e h Φ f).2 i (fL _ _))
def Ol(i:0<=n/\n<=9)(y:0<=bU)(A:bI V bS Γ 0 nB .z a k)(hb:bI V bU (Γ++[#[x,.z,.val k]]) 0 Bl .z b k)(B:bS+9*bU<=w):bI V w Γ u D .z (.bg n x a b) k:=λd h s o p q=>by
 refine aX (A d h s o p q) λC ka=>?_;have F:∀(m:Nat)(r:Bv×Sg),m<=9->ie h k r.1->s.le (bS+(9-m)*bU) r.2->ie h k (dm (λv=>sd b (bM d x (.val v)) .z) m r).1/\s.le (bS+9*bU) (dm (λv=>sd b (bM d x (.val v)) .z) m r).2:=by
  intro m
  induction m with
  |zero=>exact λr _ j f=>#[j,f.up (by simp)]
  |succ m G=>
   intro r K j f;refine aX (hb (bM d x (.val r.1)) h r.2 (o.put #[_,rfl,j]) (di p f.k) (q.up f.k)) λI J=>G _ (bG ()) I.ok (f.trans J ?_);have e:(9-(m:Int))*bU=(9-((m+1:Nat):Int))*bU+bU:=by rw[show(9-(m:Int))=(9-((m+1:Nat):Int))+1 by show(9-(m:Int))=(9-((m:Int)+1))+1;exact Int.le_antisymm (bw 0x184206132908ca41248 rfl) (bw 0x232906108184ca41248 rfl),Int.add_mul,Int.one_mul]
   exact kH 0x4f30138134c04904920604e34f rfl e
 have:=F n.toNat (sd a d .z s) (Int.toNat_le.mpr i.2) C.ok (ka.up (by have:=Int.mul_nonneg (show 0<=9-(n.toNat:Int) by rw[Int.toNat_of_nonneg i.1];exact Int.sub_nonneg_of_le i.2) y;exact cS 0x4d30c049049205360 rfl this));exact#[this.1.gd,this.2.up B]
def R6(o:look Γ g=some #[g,.z,.fn ka k])(p:bI V bS Γ 0 nB .z a ka)(q:bS+V<=w):bI V w Γ u D .z (.use g a) k:=λd i s j m n=>by
 refine aQ (j g _ o) λF e r=>aX (p d i s j m n) λv ka=>?_;have h:=r i (Dm.le.refl i) _ (sd a d .z s).2 v.ok (di m ka.k) (n.up ka.k);have y:sd (.use g a) d .z s=F (sd a d .z s).1 (sd a d .z s).2:=by show(d g).f _ _=_;(refine e▸?_);rfl
 exact(y)▸#[h.1.gd,ka.trans h.2 q]
def R7(m:look Γ g=some #[g,.o,.fn ka k])(q:bI V w Γ u D .o a k')(d:u+1<=u')(r:D+1<=D'):bI V w Γ u' D' .o (.use g a) jq:=λh v s n z A=>by
 refine bB λQ B=>aQ (n g _ m) λy e C=>?_;obtain⟨⟨p,F,G,I,J⟩,K⟩:=q h v s n z A;refine B ?_;refine#[#[.use y p,by show Bv.pc (.use (h g).y (sd a h .o s).1.p)=_;(refine F▸?_;refine e▸?_);rfl,.use C G,nL I r,λL i f=>?_],K];have j:=f g _ _ m;replace j:=e▸j;have P:dep u' i=u'+i:=wM (Nat.lt_of_lt_of_le (Nat.succ_pos u) d);refine p0 (lg (J L i f) (tw (.inr d)) (aU _)) (bZ ?_ (fL _ _))
 (refine P▸?_);exact Nat.add_le_add (bZ (ee 1 u) d) (j)
def R8(i:bI V bS (Γ++[#[x,.z,.val ka]]) 0 nB .z a k)(hb:bI V' w (Γ++[#[g,.z,.fn ka k]]) u D .z b k')(j:V<=V')(m:bS<=V'):bI V w Γ u D .z (.def_ g x kd a b) k':=λd e s h n o=>by
 obtain⟨p,r⟩:=hb (bM d g (.fn λv=>sd a (bM d x (.val v)) .z)) e s ((h.up (Dm.le.refl e) j).put #[_,rfl,λy q v s' A hk B=>by
  refine aX (i (bM d x (.val v)) y s' ((h.up q (bk _)).put #[_,rfl,A]) hk B) λC ka=>?_
  exact#[C.ok,ka.up m]]) n o
 exact#[p.back λF G f=>f.fz _ _ _ _,r]
def GX(ha:bI V bS (Γ++[#[x,.o,.val ka]]) mK D .o a k₁)(hb:bI V bU (Γ++[#[g,.o,.fn ka k]]) fU D .o b k')(hw:2+bS+bU<=w)(hD:D+1<=D')(Q:fU<=7)(i:(iz Γ/\mK=0)∨(mK=fU/\(fU=0∨2*fU+1<=u'))):bI V w Γ u' D' .o (.def_ g x kd a b) jq:=λm R s F n A=>by
 have f1:=A.none n (bk _);have B:s.new.new.k=s.k+1+1:=rfl;refine bB λXx aH=>?_;obtain⟨⟨p,ep,p1,p2,T⟩,U⟩:=ha (bM m x (.nm (vn (s.k+1+1)))) (cV R (vn (s.k+1+1)) .v) s.new.new ((F.up (Dm.le.new .v (A.none n (bw we rfl))) (bk _)).put #[_,rfl,kQ]) (cS wg rfl n B) ((A.up (cS wh rfl B)).put #[~~~bw wi rfl n,by(exact bk _)] _);have X:=U.k;obtain⟨⟨q,eq,q1,q2,q3⟩,kq⟩:=hb (bM m g (.nm (vn (s.k+1)))) (cV R (vn (s.k+1)) .f) (sd a (bM m x (.nm (vn (s.k+1+1)))) .o s.new.new).2 ((F.up (Dm.le.new .f f1) (bk _)).put #[_,rfl,kQ]) (cD zu rfl n B X) ((A.up (cD zv rfl B X)).put #[~~~bw mw rfl n,by(exact Int.le_of_lt ())] _);refine aH ?_;refine#[#[.def_ (vn (s.k+1)) (vn (s.k+1+1)) kd p q,by show Bv.pc (.def_ _ _ kd (sd a _ .o s.new.new).1.p (sd b _ .o (sd a _ .o s.new.new).2).1.p)=_;(refine ep▸?_;refine eq▸?_);rfl,.def_ p1 q1,iw p2 q2 hD,λd Φ f=>?_],(((Sg.le.new s).trans (Sg.le.new s.new) (bk _)).trans U (bk _)).trans kq ()];show 1+q.fr (nk d (vn (s.k+1)) (p.fr d))<=max (8*(1+max p.depth q.depth)) _;have Y:∀Φ,iy Γ m d Φ->iy (Γ++[#[g,.o,.fn ka k]]) (bM m g (.nm (vn (s.k+1)))) (nk d (vn (s.k+1)) (p.fr d)) (max Φ (p.fr d)):=λΦ f h ka' k' hh=>by
  rw[iD] at hh;cases hx:(g==h) with
  |true=>
   refine(beq_iff_eq.mp hx)▸MU▸?_;show(if(vn (s.k+1)==vn (s.k+1))=true then p.fr d else _)<=_;rw[if_pos (beq_self_eq_true _)];exact fL _ _
  |false=>
   replace hh:=hx▸hh;have hh:look Γ h=some _:=hh;refine aQ (F h _ hh) λy e G=>?_;have I:=f h _ _ hh;refine(Qo hx)▸e▸?_;replace I:=e▸I;show(if(vn (s.k+1)==y)=true then _ else d y)<=_;rw[(beq_eq_false_iff_ne.mpr λz=>by(replace G:=f1▸((Eq.symm (z))▸G));exact bR G)];show d y<=_;exact bZ (I) (e9 _ _)
 have J:=e9 p.depth q.depth;have C:=fL p.depth q.depth;generalize max p.depth q.depth=M at J C;rcases i with ⟨hN,K⟩|⟨K,i⟩
 ·have f0:iy Γ m d 0:=λh ka k hh=>absurd hh (hN h ka k);have j:=T d 0 (f0.val _ _ _ _);have r:=q3 _ _ (Y 0 f0);rw[show dep mK 0=0 by(refine K.symm▸?_);rfl,Nat.max_zero] at j;have Z:=bZ (xh fU (max 0 (p.fr d))) (Nat.add_le_add_right Q _);rw[Nat.zero_max] at Z r;refine bZ (Nat.add_le_add_left (bZ r (Nat.max_le.mpr #[?_,?_])) 1) (bZ (?_:1+(8*M+7)<=_) (e9 _ _))
  ·exact aM Fx rfl C
  ·exact ej 0x6710da0c04904904920920534e1443a83c504f9cc rfl J j Z
  ·exact a7 Fy rfl
 ·have j:=T d Φ (f.val _ _ _ _);have r:=q3 _ _ (Y Φ f);replace j:=K▸j;rcases i with i|i
  ·rw[i] at j r;refine bZ (Nat.add_le_add_left (bZ r (Nat.max_le.mpr #[?_,?_])) 1) (bZ (?_:1+(8*M+7)<=_) (e9 _ _))
   ·exact aM Fx rfl C
   ·exact gp _
   ·exact a7 Fy rfl
  ·have L:dep u' Φ=u'+Φ:=wM (aM 0x301860049049205301844362 rfl i);refine L▸bZ (Nat.add_le_add_left (bZ r (Nat.max_le.mpr #[show 8*q.depth<=fU+max (8*M) (fU+Φ) from bZ (Nat.mul_le_mul_left 8 C) (bZ (e9 _ _) (ee _ _)),bZ (xh fU _) (Nat.add_le_add_left (Nat.max_le.mpr #[show Φ<=max (8*M) (fU+Φ) from bZ (ee _ _) (fL _ _),(bZ j (Nat.max_le.mpr #[show 8*p.depth<=max (8*M) (fU+Φ) from bZ (Nat.mul_le_mul_left 8 J) (e9 _ _),bZ (xh fU Φ) (fL _ _)]))]) fU)])) 1) ?_;rcases Nat.le_total (8*M) (fU+Φ) with P|P
   ·(refine(Nat.max_eq_right P).symm▸?_);exact bZ (bD 0x4d38104134c321049049205381844322 rfl i:_<=u'+Φ) (fL _ _)
   ·(refine(Nat.max_eq_left P).symm▸?_);exact bZ (aM 0x101361a010443683210490492059cc rfl Q:_<=8*(1+M)) (e9 _ _)
end
abbrev ub(l:Lv)(b:Bool)(d:Nat):Nat:=match l,b with
|_,false=>0
|.o,true=>2^d-1
|.z,true=>2^(d-1)-1
abbrev cap:Lv->Bool->Nat
|.z,false=>5|.o,false=>4|.z,true=>2|.o,true=>3
def nM(h:d+1<=cap .z b):ub .z b d=0:=by
 cases b with
|false=>rfl
|true=>have h:d+1<=2:=h;match d,h with
  |0,_=>rfl
  |1,_=>rfl
def zY(h:a<=b):2^a-1<=2^b-1:=Nat.sub_le_sub_right (Nat.pow_le_pow_right ∅ h) 1
def oz(h:d<=d'):ub l b d<=ub l b d':=by
 cases b with
|false=>cases l<;>exact aU _
|true=>cases l with
  |z=>exact zY (Nat.sub_le_sub_right h 1)
  |o=>exact zY h
def Ga(d:Nat):2*(2^d-1)+1=2^(d+1)-1:=by have:=Nat.two_pow_pos d;rw[Nat.pow_succ];generalize 2^d=x at this;exact cm (a7 0xa11223018440a1322208201248049049201240240242248009049009089205301860 rfl this) (a7 0x18440a13220a1122308208049201242248049089201248 rfl)
def Gb:ub .o b d=0∨2*ub .o b d+1<=ub .o b (d+1):=by
 cases b with
|false=>exact .inl rfl
|true=>exact .inr (Nat.le_of_eq (Ga d))
def dbl(h:2*a+1<=b):a+1<=b:=bZ (Nat.add_le_add_right (Nat.le_mul_of_pos_left a ∅) 1) h
def oA:ub .o b d=0∨ub .o b d+1<=ub .o b (d+1):=by
 rcases Gb with h|h
 ·exact .inl h
 ·exact .inr (dbl h)
def R9:ub .o true d+1<=ub .o true (d+1):=dbl (Nat.le_of_eq (Ga d))
def Qr:ub .z b d<=ub .o b (d+1):=by
 cases b with
|false=>exact aU _
|true=>exact zY (bZ (Nat.sub_le d 1) (Nat.le_succ d))
def Om:ub .o b d<=ub .z b (d+1):=by cases b<;>exact aU _
def JT(h:d<=3):ub .o true d<=7:=by
 match d,h with
|0,_=>decide
|1,_=>decide
|2,_=>decide
|3,_=>decide
def iz.val(h:iz Γ)(x:Str)(l:Lv)(k:Kd):iz (Γ++[#[x,l,.val k]]):=λg b c a=>by
 rw[iD] at a;cases hx:(x==g) with
|true=>(replace a:=(if_pos rfl)▸(hx▸a));cases a
|false=>(replace a:=hx▸a);exact h g b c a
def iz.fz(h:iz Γ)(x:Str)(a r:Kd):iz (Γ++[#[x,.z,.fn a r]]):=λg c d b=>by
 rw[iD] at b;cases hx:(x==g) with
|true=>(replace b:=(if_pos rfl)▸(hx▸b));cases b
|false=>(replace b:=hx▸b);exact h g c d b
abbrev W:Nat->Int->Int
|0,_=>0
|d+1,V=>3+V+max (10*W d V) (W d (max V (W d V)))
def dJ:∀d {V:Int},0<=V->0<=W d V
|0,_,_=>bk _
|d+1,V,h=>by have:=dJ d h;show 0<=3+V+max (10*W d V) (W d (max V (W d V)));exact cD 0x10ce10da8132380804900928904920124124a24124814c805360 rfl h this
def eQ{d:Nat}{V:Int}(h:0<=V):3+V+10*W d V<=W (d+1) V/\3+V+W d (max V (W d V))<=W (d+1) V:=by have e:W (d+1) V=3+V+max (10*W d V) (W d (max V (W d V))):=rfl;exact e▸#[Int.add_le_add_left (Int.le_max_left _ _) _,Int.add_le_add_left (Int.le_max_right _ _) _]
def Bm{d:Nat}{V:Int}(h:0<=V):W d V<=W (d+1) V:=by have a:=(eQ (d:=d) h).1;have b:=dJ d h;exact cD mi rfl h a b
def qb{V:Int}(h:0<=V):∀{d a:Nat},d<=a->W d V<=W a V
|d,a,q=>by
  induction a with
  |zero=>(refine(Nat.le_zero.mp q).symm▸?_);exact bk _
  |succ a b=>
   rcases Nat.lt_or_ge d (a+1) with g|g
   ·exact di (b (cE ())) (Bm h)
   ·rw[show d=a+1 by exact cm (aM zo rfl q) (aM vZ rfl g)];exact bk _
def good{d:Nat}{u:Sc}{l:Lv}{f:Bool}{t:Tm}(h:HG d u l f t k):∀b V,0<=V->(b=false->iz u)->d<=cap l b->bI V (W d V) u (ub l b d) (30+d) l t k:=by
 induction h with
|@num d u l f i=>intro b V j r p;(clear p;cases l);exact Am.up (aU _) (aU _) (dJ _ j);exact(tV (~~~a7 82653221448 rfl)).up (aU _) (aU _) (dJ _ j)
|@name d u l f x k K=>intro b V j r p;(clear p;cases l);exact(F8 K).up (aU _) (aU _) (dJ _ j);exact(pZ K (~~~a7 82653221448 rfl)).up (aU _) (aU _) (dJ _ j)
|@kB d u f x K=>intro b V j r p;exact(rR (D':=30) (F8 K) (eG _ _)).up (aU _) (aU _) (dJ _ j)
|@la d u f x K=>intro b V j r p;exact(kl (D:=1) (k:=.aD) (bk _) (pZ K (aU _))).up (aU _) (aU _) (dJ _ j)
|@lb d u f i=>intro b V j r p;exact(kl (D:=1) (k:=.aD) (bk _) (tV (aU _))).up (aU _) (aU _) (dJ _ j)
|@lp d u f i=>intro b V j r p;exact(GW (u':=0) (D':=0) Am).up (aU _) (aU _) (dJ _ j)
|@when d u l f a G c k F hb Z s B L=>
  intro b V j r p;have v:=(eQ (d:=d) j).1;have m:=dJ d j;have A:=s b V j r (bG ());have C:=B b V j r (bG ());have g3:=L b V j r (bG ());clear p L B s Z hb F;cases l with
  |z=>exact(Qp A C g3 (bk _)).up (oz (eG _ _)) (Nat.le_succ _) (~~~cD oi rfl j v m)
  |o=>exact Qq A C g3 oA (aU _) (~~~cD Fz rfl j v m)
|@use d u l f g a ka k Q F s=>
  intro b V j r p;have v:=(eQ (d:=d) j).1;have m:=dJ d j;have A:=s b V j r (bG ());clear s F;cases l with
  |z=>(replace A:=(nM p)▸A);exact R6 Q A (~~~cD FA rfl v m)
  |o=>clear p;cases b with
   |false=>exact absurd Q (r rfl _ _ _)
   |true=>exact(R7 Q A R9 (aU _)).up (aU _) (aU _) (~~~cD mi rfl j v m)
|@aY d u l f x a G k k' F hb s B=>
  intro b V j r p;have v:=(eQ (d:=d) j).1;have m:=dJ d j;have A:=s b V j r (bG ());have C:=B b V j (λq=>(r q).val _ _ _) (bG ());clear B s hb F;cases l with
  |z=>(replace A:=(nM p)▸A);exact(tW A C (bk _)).up (oz (eG _ _)) (Nat.le_succ _) (~~~cD oi rfl j v m)
  |o=>exact tX A C oA (aU _) (~~~cD wj rfl j v m)
|@bg d u l f n x a G k hn F hb s B=>
  intro b V j r p;have v:=(eQ (d:=d) j).1;have m:=dJ d j;have A:=s b V j r (bG ());have C:=B b V j (λq=>(r q).val _ _ _) (bG ());clear B s hb F;cases l with
  |z=>rw[nM p] at A C;exact Ol hn m A C (~~~cD FC rfl j v)
  |o=>exact Oj hn A C oA (aU _) (~~~cD wj rfl j v m)
|@def_ d u l f g x a G ka k k' hl F hb s B=>
  intro b V j r p;have v:=(eQ (d:=d) j).1;have m:=dJ d j;have A:=s b V j (λq=>(r q).val _ _ _) (bG ());clear s hb F hl;cases l with
  |z=>
   have B9:0<=max V (W d V):=by exact cS Eb rfl m
   have R:=(eQ (d:=d) j).2;have C:=B b _ B9 (λq=>(r q).fz _ _ _) (bG ());replace A:=(nM p)▸A;exact(R8 A C (~~~cS zw rfl) (~~~cS wd rfl)).up (oz (eG _ _)) (Nat.le_succ _) (~~~cD Ec rfl j R)
  |o=>cases b with
   |false=>
    have p:d+1<=4:=p;have C:=B true V j (~~~tf) (show d<=3 by(exact cE ()));exact GX A C (w:=W (d+1) V) (~~~cD zx rfl j v m) (aU _) (JT (cE ())) (.inl #[r rfl,rfl])
   |true=>
    have p:d+1<=3:=p;have C:=B true V j (~~~tf) (show d<=3 by(exact bG ()));exact GX A C (w:=W (d+1) V) (~~~cD zx rfl j v m) (aU _) (JT (bG ())) (.inr #[rfl,Gb])
|@bK d u f a F s=>
  intro b V j r p;have v:=(eQ (d:=d) j).1;have m:=dJ d j;have I:d<=cap .o b:=by cases b with
   |false=>have p:d+1<=5:=p;show d<=4;(exact cE ())
   |true=>have p:d+1<=2:=p;show d<=3;exact a7 Ed rfl p
  exact(kl (D':=30) m (s b V j r I)).up Om (eG _ _) (~~~cD mi rfl j v m)
|@hole d u f a F s=>
  intro b V j r p;have v:=(eQ (d:=d) j).1;have m:=dJ d j;have I:d<=cap .z b:=by cases b with
   |false=>have p:d+1<=4:=p;show d<=5;exact a7 Ee rfl p
   |true=>have p:d+1<=3:=p;show d<=2;(exact cE ())
  exact(rR (D:=30) (s b V j r I) (aU _)).up Qr (eG _ _) (~~~cD mi rfl j v m)
|@lift d u f a F s=>intro b V j r p;exact(GW (s b V j r (bG ()))).up (aU _) (aU _) (Bm j)
|@run d u a F s=>intro b V j r p;exact(TZ (s b V j r (bG ()))).up (aU _) (aU _) (Bm j)
|@ak d u l f w a G F hb s B=>
  intro b V j r p;have v:=(eQ (d:=d) j).1;have m:=dJ d j;have A:=s b V j r (bG ());have C:=B b V j r (bG ());clear p B s hb F;cases l with
  |z=>exact R5 A C (~~~cD oi rfl j v m)
  |o=>exact An A C oA (aU _) (cD oi rfl j v m)
|@kept d u f x g a G F hb s B=>
  intro b V j r p;have v:=(eQ (d:=d) j).1;have m:=dJ d j;have J:=qb j (show d-1<=d by(exact Nat.sub_le _ _));have uX:=qb j (show d-2<=d by(exact Nat.sub_le _ _));have T:=dJ (d-1) j;have U:=dJ (d-2) j;exact tX ((s b V j r (~~~aM mj rfl p)).up (oz (b:=b) (show d-1<=d by(exact Nat.sub_le _ _))) (show 30+(d-1)<=30+d by exact a7 wk rfl) (bk _)) ((rR (k:=.aD) (D:=30+d) (tW (x:=g) (nB:=0) (ka:=.ba) (kl (D:=1) (k:=.aD) (bk _) (pZ (kP u #[x,.o,.val .aD]) (aU _))) (kl (D':=30) T (B b V j (λq=>((r q).val _ _ _).val _ _ _) (~~~aM mj rfl p))) (w:=W (d-1) V) (bw jG rfl)) (eG _ _)).up (oz (show d-1<=d by(exact Nat.sub_le _ _))) (aU _) (bk _)) oA (aU _) (kH 0xd04c04c84124824a24124124814e80534110fa813a314f305320 rfl j v J T)
|@twice d u f x g a y i G c F hb Z s B L=>
  intro b V j r p;have v:=(eQ (d:=d) j).1;have m:=dJ d j;have J:=qb j (show d-1<=d by(exact Nat.sub_le _ _));have uX:=qb j (show d-2<=d by(exact Nat.sub_le _ _));have T:=dJ (d-1) j;have U:=dJ (d-2) j;have X:b=false->iz (u++[#[x,.o,.val .aD]]++[#[g,.z,.val .ba]]++[#[y,.o,.val .aD]]):=λq=>(((r q).val _ _ _).val _ _ _).val _ _ _;have fin:∀P Y,(ub .o b (d-2)=0∨ub .o b (d-2)+1<=P)->(P=0∨P+1<=Y)->Y<=ub .o b d->bI V (W (d+1) V) u (ub .o b (d+1)) (30+(d+1)) .o (.aY x a (.un .hole (.aY g (.un .bK (.name x)) (.un .bK (.aY y (.num i) (.ak .sum G c)))))) .aD:=λP Y h4 h5 h6=>by
   exact tX ((s b V j r (~~~aM mj rfl p)).up (oz (b:=b) (show d-1<=d by(exact Nat.sub_le _ _))) (show 30+(d-1)<=30+d by exact a7 wk rfl) (bk _)) ((rR (k:=.aD) (D:=30+d) (tW (x:=g) (nB:=0) (ka:=.ba) (kl (D:=1) (k:=.aD) (bk _) (pZ (kP u #[x,.o,.val .aD]) (aU _))) (kl (D':=30) (by show(0:Int)<=1+0+(0+W (d-2) V);exact bw 0x41320060860049049205320 rfl U) (tX (jq:=.aD) (ka:=.aD) (k:=.aD) (x:=y) (tV (i:=i) (ee _ _)) (An (o:=.sum) (k':=.aD) ((B b V j X (gp _)).up (oz (b:=b) (show 0<=d-2 by(exact gp _))) (show 30+0<=30+(d-2) by(exact eG _ _)) (bk _)) (L b V j X (aM zy rfl p)) h4 (aU _) (bk _)) h5 (aU _) (bk _))) (bk _)) (eG _ _)).up h6 (aU _) (bk _)) oA (aU _) (by show 1+W (d-1) V+(0+(1+0+(W 0 V+W (d-2) V)))<=W (d+1) V;have:W 0 V=0:=rfl;exact jW 0xf04104138d06086004c8412402412482492412412412481508053c1111a8142315130544e14e80680d rfl j v J uX U this)
  by_cases hd:2<=d
  ·have e:d-2+1+1=d:=cm (a7 0x30184184288c201248049009049205322 rfl hd) (a7 0x184184288c308049201241248 rfl);have:=fin (ub .o b (d-2+1)) (ub .o b (d-2+1+1)) oA oA (by(refine e.symm▸?_);exact aU _);exact this
  ·have e:d-2=0:=cm (a7 0x80288c20124024124804920588184c rfl (Nat.not_le.mp hd)) (a7 0x288c808049049201248 rfl);have e0:ub .o b (d-2)=0:=by(refine e.symm▸?_);(clear X p r;cases b)<;>rfl
   exact fin 0 0 (.inl e0) (.inl rfl) (gp _)
def rS(a:Tm)(b:Str->Nat):1<=a.fr b:=by cases a<;>first|exact aU 1|exact eG 1 _
section
variable{ev:Nat->Tm->Nat->H->Res V}{bf:H->V->Str->Tm->Nat->Prop}{ok:H->Prop}
abbrev HoldsD(ev:Nat->Tm->Nat->H->Res V)(bf:H->V->Str->Tm->Nat->Prop)(d:Str->Nat)(U:H)(es:List (Str×V))(J:Str->Dv)(x:Str):Pm->Prop
|.v=>∃i,J x=.num i/\dn es x=some (.int i)/\dW i
|.f=>∃F b p body c a,J x=.fn F/\dn es x=some b/\bf U b p body c/\U[c]?=some (.az a)/\a.length<=aJ/\(∀i,dW i->dW (F i))/\∀τ i,dW i->eI ev (2*d x) body (U++τ).length (U++τ++[.az (bp a p (.int i))]) (.int (F i))
abbrev ig(ev:Nat->Tm->Nat->H->Res V)(bf:H->V->Str->Tm->Nat->Prop)(a:Str->Nat)(b:Dm)(U:H)(es:List (Str×V))(J:Str->Dv):Prop:=∀x m,b x=some m->HoldsD ev bf a U es J x m
variable(K:xU ev bf ok)
include K
def ig.grow(h:ig ev bf φ Δ U es J):ig ev bf φ Δ (U++τ) es J:=λx m b=>by
 have:=h x m b;clear b;cases m with
|v=>exact this
|f=>
  refine Aw (this) λF c p body d a e g j k l n o=>#[F,c,p,body,d,a,e,g,K.uK j,old k,l,n,λq i r=>?_];rw[List.append_assoc];exact o (τ++q) i r
omit K in
def ig.put(h:ig ev bf φ Δ U es J)(k:∀x,(y==x)=false->JU x=φ x)(l:HoldsD ev bf JU U (bp es y v) (upd J y dv) y m):ig ev bf JU (cV Δ y m) U (bp es y v) (upd J y dv):=λx m' a=>by
 unfold cV at a;cases hx:(y==x) with
|true=>
  replace a:=(if_pos rfl)▸(hx▸a);(apply fg a)
  (refine(beq_iff_eq.mp hx)▸?_);exact l
|false=>
  replace a:=hx▸a;have:=h x m' a;have g:dn (bp es y v) x=dn es x:=by rw[n9,hx];rfl
  have j:upd J y dv x=J x:=by unfold upd;(refine hx▸?_);rfl
  clear a;cases m' with
  |v=>obtain⟨i,b,c,d⟩:=this;exact#[i,j.trans b,g.trans c,d]
  |f=>obtain⟨F,n,p,body,o,e,b,c,d,q,r,s,t⟩:=this;exact#[F,n,p,body,o,e,j.trans b,g.trans c,d,q,r,s,by(refine(k x hx)▸?_);exact t]
omit K in
def ig.num(h:ig ev bf φ Δ U es J)(a:dW i):ig ev bf φ (cV Δ x .v) U (bp es x (.int i)) (upd J x (.num i)):=
 ig.put h (λ_ _=>rfl) #[i,by unfold upd;rw[beq_self_eq_true];rfl,by rw[n9,beq_self_eq_true];rfl,a]
def GY(h:eA q G t)(hU:q=true->∀{U d N w x v},ok U->eI ev N x d U v->eI ev (N+2) (.un w x) d U v):∀(f:Str->Nat)(U:H)(d:Nat)(k:List (Str×V))(J:Str->Dv),ok U->U[d]?=some (.az k)->k.length+t.depth<=aJ->ig ev bf f G U k J->dW (t.den J)/\eI ev (2*t.fr f) t d U (.int (t.den J)):=by
 induction h with
|num=>exact λf U d k J l m u o=>#[#[Int.fmod_nonneg_of_pos _ ∅,Int.fmod_lt_of_pos _ ∅],K.num.more (by simp only[nq,nr,lJ,nu,nv,nw,nx,ny,nz];(exact ee _ _))]
|@name G x hx=>
  intro f U d k J l m u o;refine ct (o x _ hx) λi Y s Q=>?_;have e:(Tm.name x).den J=i:=by simp only[I1,I2,I3,I4,I5,I6,I7,I8,I9,Y]
  exact e▸#[Q,(K.name m s).more (by simp only[nq,nr,lJ,nu,nv,nw,nx,ny,nz];(exact ee _ _))]
|@un G w a hq R Z=>
  intro f U d k J l m u o;have D:(Tm.un w a).depth=1+a.depth:=rfl;exact aX (Z f U d k J l m (zz (aU _) ()) o) λz A=>#[z,(hU hq l A).more (by simp only[lJ];lia)]
|@use G g a hg R Z=>
  intro f U d k J l m u o;refine Aw (o g _ hg) λF I p body d' es' Y s Q h4 h5 h6 h7=>?_;have e:(Tm.use g a).den J=F (a.den J):=by simp only[I1,I2,I3,I4,I5,I6,I7,I8,I9,Y]
  have D:(Tm.use g a).depth=1+a.depth:=rfl;refine aX (Z f U d k J l m (zz (aU _) ()) o) λz A=>(e)▸?_;have:=rS a f;exact#[h6 _ z,(K.use l (aM wm rfl this) m s Q h4 h5 (A.more (aM wo rfl)) (λj=>(h7 j _ z).more (aM wq rfl))).more (by simp only[nq,nr,lJ,nu,nv,nw,nx,ny,nz];exact aM wt rfl)]
|@ak G w a b R hb L P=>
  intro f U d k J l m u o;have D:(Tm.ak w a b).depth=1+max a.depth b.depth:=rfl;obtain⟨z,A⟩:=L f U d k J l m (zz mL ()) o;have s:=λj=>P f (U++j) d k J (K.add l) (old m) (zz mR ()) (o.grow K);have:=rS a f;exact#[zk _ _ _,(K.ak l (aM wm rfl this) (A.more (aM wo rfl)) (λj=>(s j).2.more (aM wq rfl)) (D6 z)).more (by simp only[nq,nr,lJ,nu,nv,nw,nx,ny,nz];exact aM wt rfl)]
|@when G a b c R hb T L P gC=>
  intro f U d k J l m u o;have D:(Tm.when a b c).depth=1+max a.depth (max b.depth c.depth):=rfl;refine aX (L f U d k J l m (zz mL ()) o) λz A=>?_;have s:=λj=>P f (U++j) d k J (K.add l) (old m) (zz mM ()) (o.grow K);have Q:=λj=>gC f (U++j) d k J (K.add l) (old m) (zz mC ()) (o.grow K);have hr:=rS a f;have hd':(Tm.when a b c).den J=if a.den J=0 then c.den J else b.den J:=rfl
  refine hd'▸?_
  by_cases X:a.den J=0
  ·exact(if_pos X)▸#[(Q []).1,(K.when (N:=2*max (a.fr f) (max (b.fr f) (c.fr f))) l (~~~bD Ef rfl hr) (A.more (~~~bD Eg rfl)) (λj=>by(refine(if_pos X)▸?_);exact(Q j).2.more (~~~bD 0x40c330e36210c888208049089089201240242248049089201248 rfl))).more (by simp only[nq,nr,lJ,nu,nv,nw,nx,ny,nz];exact bD Eh rfl)]
  ·exact(if_neg X)▸#[(s []).1,(K.when (N:=2*max (a.fr f) (max (b.fr f) (c.fr f))) l (~~~bD Ef rfl hr) (A.more (~~~bD Eg rfl)) (λj=>by(refine(if_neg X)▸?_);exact(s j).2.more (~~~bD 0x40c338c36210c888208049089201248049089089201240242248 rfl))).more (by simp only[nq,nr,lJ,nu,nv,nw,nx,ny,nz];exact bD Eh rfl)]
|@aY G x a b R hb L P=>
  intro f U d k J l m u o;have D:(Tm.aY x a b).depth=1+max a.depth b.depth:=rfl;obtain⟨z,A⟩:=L f U d k J l m (zz mL ()) o;have r:=gX k x (.int (a.den J));have s:=λj=>P f (U++j++[.az (bp k x (.int (a.den J)))]) (U++j).length _ _ (K.add (K.add l)) bA (lL tA rfl u D r) (ig.num ((o.grow K).grow K) z);have:=rS a f;exact#[(s []).1,(K.aY l (aM wm rfl this) m (iQ ()) (A.more (aM wo rfl)) (λj=>(s j).2.more (aM wq rfl))).more (by simp only[nq,nr,lJ,nu,nv,nw,nx,ny,nz];exact aM wt rfl)]
|@bg G n x a b hn R hb L P=>
  intro f U d k J l m u o;have D:(Tm.bg n x a b).depth=1+max a.depth b.depth:=rfl;refine aX (L f U d k J l m (zz mL ()) o) λz A=>?_;have s:=λj i (B:dW i)=>P f (U++j++[.az (bp k x (.int i))]) (U++j).length _ _ (K.add (K.add l)) bA (by have r:=gX k x (.int i);exact lL tA rfl u D r) (ig.num ((o.grow K).grow K) B);have hf:∀i,dW i->dW (b.den (upd J x (.num i))):=λi B=>(s [] i B).1;have:=rS a f;exact#[tv hf _ _ z,(K.bg l (aM wm rfl this) m (iQ ()) hn hf z (A.more (aM wo rfl)) (λj i B=>(s j i B).2.more (aM wq rfl))).more (by simp only[nq,nr,lJ,nu,nv,nw,nx,ny,nz];exact aM wt rfl)]
|@def_ G g x kd a b R hb L P=>
  intro f U d k J l m u o;have D:(Tm.def_ g x kd a b).depth=1+max a.depth b.depth:=rfl;have C:=λj i (B:dW i)=>L f (U++j++[.az (bp k x (.int i))]) (U++j).length _ _ (K.add (K.add l)) bA (by have r:=gX k x (.int i);exact lL 0x38134c20124124124024024124804904904900904904920538140f1810d13614050613cc rfl u D r) (ig.num ((o.grow K).grow K) B);have hF:∀i,dW i->dW (a.den (upd J x (.num i))):=λi B=>(C [] i B).1;have s:=λj I (T:bf (U++j) I x a d)=>P (nk f g (a.fr f)) (U++j++[.az (bp k g I)]) (U++j).length (bp k g I) (upd J g (.fn λi=>a.den (upd J x (.num i)))) (K.add (K.add l)) bA (by have r:=gX k g I;exact lL tA rfl u D r)
   (ig.put ((o.grow K).grow K) (λy hy=>by unfold nk;(refine hy▸?_);rfl) #[_,I,x,a,d,k,by unfold upd;rw[beq_self_eq_true];rfl,by rw[n9,beq_self_eq_true];rfl,K.uK T,old (old m),by(exact iQ ()),hF,λek i B=>by
    have:=(C (j++([.az (bp k g I)]++ek)) i B).2;rw[←List.append_assoc,←List.append_assoc] at this;have e:nk f g (a.fr f) g=a.fr f:=by unfold nk;rw[beq_self_eq_true];rfl
    refine e.symm▸?_
    exact this])
  refine fD (K.new U x a d) λlQ c0 hc0=>?_;have:=rS b (nk f g (a.fr f));exact#[(s lQ c0 hc0).1,(K.def_ l (a7 0x10c8a1049089205321 rfl this) m (iQ ()) (λj I T=>(s j I T).2)).more (by simp only[nq,nr,lJ,nu,nv,nw,nx,ny,nz];exact a7 0x404c86206210c881248 rfl)]
end
structure nC(P:Prog):Prop where
 ym:P.fns 10=some yA
 JV:P.fns 40=some yw
 JW:P.fns 56=some Cy
 JX:P.fns 57=some DY
 JY:P.fns 58=some yD
 JZ:P.fns 59=some o9
 uY:P.fns 60=some Cu
 J0:P.fns 61=some yE
section
variable{P:Prog}{sc:List Int}(B:nC P)
include B
def l7{n b:Nat}{es:List (Str×V)}{x:Str}{v:V}{U:H}(hb:U[b]?=some (.az es))(a:es.length<=aJ):
  av P sc (n+1) 59 [.ref b,.str x,v] U=.ok (.ref U.length) (U++[.az (bp es x v)]):=by rw[cI B.JZ rfl];refine(congrArg cp ((bj (GN (aB rfl) (F3 hb a))).trans ((dt (j7 (aB rfl) (aB rfl) (aB rfl) (F2 bA a))).trans (bq (aB rfl))))).trans ?_;rw[zQ];rfl
abbrev UU:SL:=match yD.body with
|.cons _ r=>r
|_=>.nil
def iT{n d:Nat}{t:Tm}{w:Str}{U a:H}{v st:V}{L':aP}(b:∀C L,aj C (.aq (.aa 0) (.int 0)) (some t.ag::L) U=.ok (.str w) U)(h:a8 (cx P sc n) UU [some t.ag,some (.ref d),some st,some (.str w),none,none,none,none] U=.ok (.ret v) L' a):av P sc (n+1) 58 [t.ag,.ref d,st] U=.ok v a:=by rw[cI B.JY rfl];exact(congrArg cp ((bj (b _ _)).trans h)).trans rfl
def HV{n d:Nat}{i:Int}{st:V}(U:H):av P sc (n+1) 58 [(Tm.num i).ag,.ref d,st] U=.ok (.int (i.fmod 1000003)) U:=
 iT B (λ_ _=>rfl) (cu ⋯ (bq (bX rfl rfl rfl)))
def GZ{n d:Nat}{es:List (Str×V)}{x:Str}{v st:V}{U:H}(a:U[d]?=some (.az es))(b:dn es x=some v):av P sc (n+1) 58 [(Tm.name x).ag,.ref d,st] U=.ok v U:=
 iT B (λ_ _=>rfl) (jmp 1 ⋯ (cu ⋯ (bq (cC (aB rfl) rfl (jF a b)))))
def Sa{n d:Nat}{p:Tm}{i:Int}{st:V}{U ae:H}(a:av P sc n 58 [p.ag,.ref d,st] U=.ok (.int i) ae):av P sc (n+1) 58 [(Tm.un .lift p).ag,.ref d,st] U=.ok (Tm.num i).ag ae:=
 iT B (λ_ _=>rfl) (jmp 3 ⋯ (cu ⋯ (bq (cf (ax rfl (ax (aT rfl a) a6)) ∅))))
def HW{n d:Nat}{u:U2}{x y:Tm}{i j:Int}{st:V}{U ae ao:H}(a:av P sc n 58 [x.ag,.ref d,st] U=.ok (.int i) ae)(b:av P sc n 58 [y.ag,.ref d,st] ae=.ok (.int j) ao)(f:small i=true):
  ∃τ,av P sc (n+1) 58 [(Tm.ak u x y).ag,.ref d,st] U=.ok (.int (jV u i j)) (ao++τ):=by
 have two:∀L:aP,cy L 4=some (.int i)->cy L 5=some (.int j)->aj (cx P sc n) (.af {.ak .Add (.aa 4) (.aa 5),.ak .Mult (.aa 4) (.aa 5)}) L ao=.ok (.ref ao.length) (ao++[.af [.int (i+j),.int (i*j)]]):=λL c e=>
  dE (ax (bX (aB c) (aB e) rfl) (ax (bX (aB c) (aB e) (F6 f ao)) a6)) ∅
 cases u with
|less=>
  refine#[[],?_];rw[List.append_nil];have g:V.int (if decide (i<j)=true then 1 else 0)=V.int (jV .less i j):=by
   show _=V.int (if i<j then 1 else 0)
   by_cases h:i<j<;>simp[h]
  rw[←g];exact iT B (λ_ _=>rfl) (jmp 7 ⋯ ((bj (aT rfl a)).trans ((bj (aT rfl b)).trans (cu ⋯ (bq (wL (oO (aB rfl) (aB rfl) (HJ i j ao)) rfl))))))
|sum=>
  refine#[[.af [.int (i+j),.int (i*j)]],?_];exact iT B (λ_ _=>rfl) (jmp 7 ⋯ ((bj (aT rfl a)).trans ((bj (aT rfl b)).trans ((cj ⋯).trans (bq (bX (cC (two _ rfl rfl) ⋯ (dP bA rfl ∅ ∅)) rfl rfl))))))
|product=>
  refine#[[.af [.int (i+j),.int (i*j)]],?_];exact iT B (λ_ _=>rfl) (jmp 7 ⋯ ((bj (aT rfl a)).trans ((bj (aT rfl b)).trans ((cj ⋯).trans (bq (bX (cC (two _ rfl rfl) ⋯ (dP bA rfl ∅ ∅)) rfl rfl))))))
def G0{n d:Nat}{x y z:Tm}{i:Int}{v st:V}{U ae ao:H}(e:av P sc n 58 [x.ag,.ref d,st] U=.ok (.int i) ae)(f:av P sc n 58 [(if i=0 then z else y).ag,.ref d,st] ae=.ok v ao):av P sc (n+1) 58 [(Tm.when x y z).ag,.ref d,st] U=.ok v ao:=by
 have g:∀L,L=[some (Tm.when x y z).ag,some (.ref d),some st,some (.str "when"),none,none,none,none]->aj (cx P sc n) (.aq (.aa 0) (.ak .Add (.int 2) (.toInt (.cmp .Eq (.call 58 {.aq (.aa 0) (.int 1),.aa 1,.aa 2}) (.int 0))))) L U=.ok (if i=0 then z else y).ag ae:=λL j=>by
  subst j;have c:=oO (C:=cx P sc n) (L:=[some (Tm.when x y z).ag,some (.ref d),some st,some (.str "when"),none,none,none,none]) (b:=.int 0) (aT (ax (a:=.aq (.aa 0) (.int 1)) rfl (aS (i:=1) rfl (aS (i:=2) rfl a6))) e) rfl (xb i 0 ae)
  by_cases h:i=0
  ·rw[if_pos h];rw[h] at c;exact cC (aB rfl) (bX rfl (wL c rfl) rfl) rfl
  ·rw[if_neg h];rw[beq_eq_false_iff_ne.mpr h] at c;exact cC (aB rfl) (bX rfl (wL c rfl) rfl) rfl
 exact iT B (λ_ _=>rfl) (jmp 5 ⋯ (cu ⋯ (bq (aT (ax (g _ rfl) rfl) f))))
def vU{n d:Nat}{t:Tm}{w:Str}{U a:H}{v st:V}(b:∀C L,aj C (.aq (.aa 0) (.int 0)) (some t.ag::L) U=.ok (.str w) U)(c:w="let"∨w="turns"∨w="def"∨w="use")(h:av P sc n 60 [t.ag,.ref d,st] U=.ok v a):av P sc (n+1) 58 [t.ag,.ref d,st] U=.ok v a:=by
 refine iT B (L':=[some t.ag,some (.ref d),some st,some (.str w),none,none,none,none]) b ?_;have e:a8 (cx P sc n) {.ret (.call 60 {.aa 0,.aa 1,.aa 2})} [some t.ag,some (.ref d),some st,some (.str w),none,none,none,none] U=.ok (.ret v) [some t.ag,some (.ref d),some st,some (.str w),none,none,none,none] a:=
  bq (aT rfl h)
 rcases c with rfl|rfl|rfl|rfl<;>exact jmp 6 ⋯ (cu ⋯ e)
def HY{n d:Nat}{x:Str}{p q:Tm}{u v st:V}{es:List (Str×V)}{U ae ao:H}(a:av P sc (n+1) 58 [p.ag,.ref d,st] U=.ok u ae)(b:ae[d]?=some (.az es))(c:es.length<=aJ)(e:av P sc (n+1) 58 [q.ag,.ref ae.length,st] (ae++[.az (bp es x u)])=.ok v ao):av P sc (n+3) 58 [(Tm.aY x p q).ag,.ref d,st] U=.ok v ao:=by refine vU B (λ_ _=>rfl) (.inl rfl) ?_;rw[cI B.uY rfl];exact(congrArg cp (cu ⋯ ((bj (aT rfl a)).trans (bq (aT (ax rfl (ax (aT (aS rfl (ax rfl rfl)) (l7 B b c)) rfl)) e))))).trans rfl
abbrev Sb:SL:=.cons (.aK 5 (.call 58 {.aq (.aa 0) (.int 4),.call 59 {.aa 1,.aq (.aa 0) (.int 2),.aa 5},.aa 2})) .nil
def L4{n d:Nat}{k:Int}{x:Str}{p q:Tm}{st:V}(I:Nat->V->H->Prop)(f:∀j v a,j<k.toNat->I j v a->∃es,a[d]?=some (.az es)/\es.length<=aJ/\∃v' c,av P sc (n+1) 58 [q.ag,.ref a.length,st] (a++[.az (bp es x v)])=.ok v' c/\I (j+1) v' c):
  ∀(r j:Nat)(v:V)(y:Option V)(U:H),j+r=k.toNat->I j v U->∃v' g a,eK (λi=>M.pure ((d9 k)[i]?.map λv=>[(6,v)])) (a8 (cx P sc (n+1)) Sb) (r+1) j [some (Tm.bg k x p q).ag,some (.ref d),some st,none,none,some v,y] U=
   .ok .next [some (Tm.bg k x p q).ag,some (.ref d),some st,none,none,some v',g] a/\I k.toNat v' a:=by
 intro r
 induction r with
|zero=>
  intro j v y U b h;have:j=k.toNat:=by assumption
  clear b;subst this;exact#[v,y,U,tq (by rw[D5];rfl),h]
|succ r l=>
  intro j v y U b h;refine bB λD m=>?_;obtain⟨es,o,s,v',c,e,t⟩:=f j v U (bD km rfl b) h;refine g9 (l (j+1) v' (some (.int j)) c (cm (bD oc rfl b) (bD og rfl b)) t) λu w z A C=>m (#[u,w,z,?_,C]);refine(q9 (ps:=[(6,.int j)]) (ae:=U) (by rw[tr (~~~bD km rfl b)];rfl) rfl ((bj (aT (ax rfl (ax (aT (aS rfl (ax (x:=.str x) rfl (by rfl))) (l7 B o s)) (by rfl))) e)).trans eU)).trans A
def Ge{n d:Nat}{k:Int}{x:Str}{p q:Tm}{u st:V}{U ae:H}(hk:0<=k/\k<=1000000)(c:av P sc (n+1) 58 [p.ag,.ref d,st] U=.ok u ae)(I:Nat->V->H->Prop)(e:I 0 u ae)(f:∀j v a,j<k.toNat->I j v a->∃es,a[d]?=some (.az es)/\es.length<=aJ/\∃v' b,av P sc (n+1) 58 [q.ag,.ref a.length,st] (a++[.az (bp es x v)])=.ok v' b/\I (j+1) v' b):
  ∃v ao,av P sc (n+3) 58 [(Tm.bg k x p q).ag,.ref d,st] U=.ok v ao/\I k.toNat v ao:=by refine g9 (L4 (sc:=sc) B (n:=n) (k:=k) (x:=x) (p:=p) (q:=q) I f k.toNat 0 u none ae (~~~cm (a7 jG rfl) (a7 oh rfl)) e) λv y ao g h=>#[v,ao,vU B (λ_ _=>rfl) (.inr (.inl rfl)) ?_,h];rw[cI B.uY rfl];exact(congrArg cp (jmp 1 ⋯ (cu ⋯ ((bj (aT rfl c)).trans ((dt (vT rfl hk g)).trans (bq (aB rfl))))))).trans rfl
def HZ{n d:Nat}{g x b:Str}{p q:Tm}{v st:V}{es:List (Str×V)}{U ao:H}(c:U[d]?=some (.az es))(e:es.length<=aJ)(f:av P sc (n+1) 58 [q.ag,.ref (U.length+1),st] (U++[.af [.str x,p.ag,.ref d]]++[.az (bp es g (.ref U.length))])=.ok v ao):av P sc (n+3) 58 [(Tm.def_ g x b p q).ag,.ref d,st] U=.ok v ao:=by refine vU B (w:="def") (λ_ _=>rfl) (.inr (.inr (.inl rfl))) ?_;rw[cI B.uY rfl];have a:=l7 (sc:=sc) B (n:=n) (x:=g) (v:=.ref U.length) (old (τ:=[.af [.str x,p.ag,.ref d]]) c) e;rw[List.length_append,List.length_singleton] at a;exact(congrArg cp (jmp 2 ⋯ (cu ⋯ ((bj (dE (ax rfl (ax rfl rfl)) ∅)).trans (bq (aT (ax rfl (ax (aT (aS rfl (ax rfl rfl)) a) rfl)) f)))))).trans rfl
def H0{n d e f:Nat}{g x:Str}{p body:Tm}{u v st:V}{es a:List (Str×V)}{U ae ao:H}(h:U[d]?=some (.az es))(i:dn es g=some (.ref f))(j:av P sc (n+1) 58 [p.ag,.ref d,st] U=.ok u ae)(b:ae[f]?=some (.af [.str x,body.ag,.ref e]))(c:ae[e]?=some (.az a))(k:a.length<=aJ)(l:av P sc (n+1) 58 [body.ag,.ref ae.length,st] (ae++[.az (bp a x u)])=.ok v ao):av P sc (n+3) 58 [(Tm.use g p).ag,.ref d,st] U=.ok v ao:=by refine vU B (λ_ _=>rfl) (.inr (.inr (.inr rfl))) ?_;rw[cI B.uY rfl];exact(congrArg cp (jmp 3 ⋯ ((bj (cC (aB rfl) rfl (jF h i))).trans ((bj (aT rfl j)).trans (bq (aT (ax (cC (aB rfl) rfl (dP b rfl ∅ ∅)) (ax (aT (ax (cC (aB rfl) rfl (dP b rfl ∅ ∅)) (ax (cC (aB rfl) rfl (dP b rfl ∅ ∅)) rfl)) (l7 B c k)) rfl)) l)))))).trans rfl
end
def text_len{i:Int}(a:0<=i)(b:i<10^10):(Str.ofString "v").length+(fW i).length<=aJ:=by
 refine cb (Int.eq_ofNat_of_zero_le a) λn c=>?_;subst c;have d:n<10^10:=Int.ofNat_lt.mp (Int.lt_of_lt_of_le b ∅);have f:n.repr.length<=10:=(Nat.length_repr_le_iff ∅).mpr d;have e:(fW (n:Int)).length=n.repr.length:=by
  show(Str.ofString n.repr).length=_;rw[Str.ofString_eq_toList];show(n.repr.toList.map Char.toNat).length=_;rw[List.length_map,String.length_toList]
 have g:(Str.ofString "v").length=1:=by decide+kernel
 have:aJ=1000000:=rfl;exact ej 0xe04d30124124024024124024124124816a3c63cd1a1306007247d078ce rfl f e g this
abbrev eu(s:Sg):O:=.af [.int s.k,.bool s.fl,.int s.c]
section
variable{P:Prog}{sc:List Int}(B:nC P)
include B
def vF{n st:Nat}{s:Sg}{U:H}(a:U[st]?=some (eu s))(b:0<=s.k)(c:s.k+1<10^10):av P sc (n+1) 57 [.ref st] U=.ok (.str (vn (s.k+1))) (U.set st (eu s.new)):=by
 rw[cI B.JX rfl];have d:tR (.int (s.k+1)) (U.set st (eu s.new))=.ok (.str (fW (s.k+1))) (U.set st (eu s.new)):=by
  show(if 0<=s.k+1/\s.k+1<10^10 then _ else _:M V) _=_;rw[if_pos #[~~~bw jH rfl b,~~~bw 0x7407f87087507a4184184c049049205007407f87087507a4184184c rfl c]];rfl
 have e:binop .Add (.str "v") (.str (fW (s.k+1))) (U.set st (eu s.new))=.ok (.str (vn (s.k+1))) (U.set st (eu s.new)):=by
  show(if(Str.ofString "v").length+(fW (s.k+1)).length<=aJ then _ else _:M V) _=_;rw[if_pos (text_len (~~~bw jH rfl b) c)];rfl
 exact(congrArg cp ((dt (j7 (bX (cC (aB rfl) rfl (dP a rfl ∅ ∅)) rfl rfl) (aB rfl) rfl (mq a #[∅,(by decide:(0:Int)<3),nb rfl]))).trans (bq (bX rfl (by rw[EA,aN (cC (aB rfl) rfl (dP (gy a) rfl ∅ ∅))];exact d) e)))).trans rfl
abbrev T3:SL:=match yE.body with
|.cons _ r=>r
|_=>.nil
def mh{n d:Nat}{t:Tm}{w:Str}{U a:H}{v st:V}{L':aP}(b:∀C L,aj C (.aq (.aa 0) (.int 0)) (some t.ag::L) U=.ok (.str w) U)(h:a8 (cx P sc n) T3 [some t.ag,some (.ref d),some st,some (.str w),none,none,none,none,none,none] U=.ok (.ret v) L' a):av P sc (n+1) 61 [t.ag,.ref d,st] U=.ok v a:=by rw[cI B.J0 rfl];exact(congrArg cp ((bj (b _ _)).trans h)).trans rfl
def T4{n d:Nat}{i:Int}{st:V}(U:H):av P sc (n+1) 61 [(Tm.num i).ag,.ref d,st] U=.ok (Tm.num i).ag U:=
 mh B (λ_ _=>rfl) (cu ⋯ (bq (aB rfl)))
def Sd{n d:Nat}{es:List (Str×V)}{x y:Str}{st:V}{U:H}(a:U[d]?=some (.az es))(b:dn es x=some (.str y)):av P sc (n+1) 61 [(Tm.name x).ag,.ref d,st] U=.ok (Tm.name y).ag U:=
 mh B (λ_ _=>rfl) (jmp 1 ⋯ (cu ⋯ (bq (cf (ax rfl (ax (cC (aB rfl) rfl (jF a b)) a6)) ∅))))
def Sf{n d:Nat}{p:Tm}{v st:V}{U ae:H}(a:av P sc n 58 [p.ag,.ref d,st] U=.ok v ae):av P sc (n+1) 61 [(Tm.un .hole p).ag,.ref d,st] U=.ok v ae:=
 mh B (λ_ _=>rfl) (jmp 2 ⋯ (cu ⋯ (bq (aT rfl a))))
def T5{n d:Nat}{es:List (Str×V)}{g y:Str}{p R:Tm}{st:V}{U ae:H}(a:U[d]?=some (.az es))(b:dn es g=some (.str y))(c:av P sc n 61 [p.ag,.ref d,st] U=.ok R.ag ae):av P sc (n+1) 61 [(Tm.use g p).ag,.ref d,st] U=.ok (Tm.use y R).ag ae:=
 mh B (λ_ _=>rfl) (jmp 3 ⋯ (cu ⋯ (bq (cf (ax rfl (ax (cC (aB rfl) rfl (jF a b)) (ax (aT rfl c) a6))) ∅))))
def T6{n d:Nat}{x y:Str}{p q R T:Tm}{st:V}{es:List (Str×V)}{U a ae ao:H}(b:av P sc (n+1) 57 [st] U=.ok (.str y) a)(c:av P sc (n+1) 61 [p.ag,.ref d,st] a=.ok R.ag ae)(e:ae[d]?=some (.az es))(f:es.length<=aJ)(g:av P sc (n+1) 61 [q.ag,.ref ae.length,st] (ae++[.az (bp es x (.str y))])=.ok T.ag ao):av P sc (n+2) 61 [(Tm.aY x p q).ag,.ref d,st] U=.ok (Tm.aY y R T).ag ao:=
 mh B (w:="let") (λ_ _=>rfl) (jmp 4 ⋯ (cu (ae:=U) ⋯ ((bj (aT (by rfl) b)).trans ((bj (v:=.int 1) (ae:=a) rfl).trans ((bj (aT rfl c)).trans ((bj (aT (ax rfl (ax (aT (aS rfl (ax rfl rfl)) (l7 B e f)) rfl)) g)).trans (bq (bX rfl (cf rfl ∅) rfl))))))))
def Qs{k:Int}{n d:Nat}{x y:Str}{p q R T:Tm}{st:V}{es:List (Str×V)}{U a ae ao:H}(b:av P sc (n+1) 57 [st] U=.ok (.str y) a)(c:av P sc (n+1) 61 [p.ag,.ref d,st] a=.ok R.ag ae)(e:ae[d]?=some (.az es))(f:es.length<=aJ)(g:av P sc (n+1) 61 [q.ag,.ref ae.length,st] (ae++[.az (bp es x (.str y))])=.ok T.ag ao):av P sc (n+2) 61 [(Tm.bg k x p q).ag,.ref d,st] U=.ok (Tm.bg k y R T).ag ao:=
 mh B (w:="turns") (λ_ _=>rfl) (jmp 4 ⋯ (cu (ae:=U) ⋯ ((bj (aT (by rfl) b)).trans ((bj (v:=.int 2) (ae:=a) rfl).trans ((bj (aT rfl c)).trans ((bj (aT (ax rfl (ax (aT (aS rfl (ax rfl rfl)) (l7 B e f)) rfl)) g)).trans (bq (bX rfl (cf rfl ∅) rfl))))))))
def T7{n d:Nat}{g x y z:Str}{p q R T:Tm}{st:V}{es a:List (Str×V)}{U e ae ao b9:H}(f:av P sc (n+1) 57 [st] U=.ok (.str y) e)(h:av P sc (n+1) 57 [st] e=.ok (.str z) ae)(i:ae[d]?=some (.az es))(j:es.length<=aJ)(k:av P sc (n+1) 61 [p.ag,.ref ae.length,st] (ae++[.az (bp es x (.str z))])=.ok R.ag ao)(b:ao[d]?=some (.az a))(c:a.length<=aJ)(l:av P sc (n+1) 61 [q.ag,.ref ao.length,st] (ao++[.az (bp a g (.str y))])=.ok T.ag b9):
  av P sc (n+2) 61 [(Tm.def_ g x "number" p q).ag,.ref d,st] U=.ok (Tm.def_ y z "number" R T).ag b9:=
 mh B (λ_ _=>rfl) (jmp 5 ⋯ (cu ⋯ ((bj (aT rfl f)).trans ((bj (aT rfl h)).trans ((bj (aT (ax rfl (ax (aT (aS rfl (ax rfl rfl)) (l7 B i j)) rfl)) k)).trans ((bj (aT (ax rfl (ax (aT (aS rfl (ax rfl rfl)) (l7 B b c)) rfl)) l)).trans (bq (cf rfl ∅))))))))
end
section
variable{P:Prog}{sc:List Int}(B:nC P)
include B
def T8(c:av P sc n 61 [x.ag,.ref d,st] U=.ok X.ag ae)(e:av P sc n 61 [y.ag,.ref d,st] ae=.ok Y.ag ao):
  av P sc (n+1) 61 [(Tm.ak u x y).ag,.ref d,st] U=.ok (Tm.ak u X Y).ag (ao++[.af [X.ag,Y.ag]]):=by
 have f1:M.bind (aj (cx P sc n) (.call 61 {.aa 9,.aa 1,.aa 2}) (cq (dj [some (Tm.ak u x y).ag,some (.ref d),some st,some (.str u.str),none,none,none,none,none,none] [1,2]) 9 x.ag)) (λy=>M.pure (some y)) U=.ok (some X.ag) ae:=by
  rw[aN (aT rfl c)];rfl
 have f2:M.bind (aj (cx P sc n) (.call 61 {.aa 9,.aa 1,.aa 2}) (cq (dj [some (Tm.ak u x y).ag,some (.ref d),some st,some (.str u.str),none,none,none,none,none,none] [1,2]) 9 y.ag)) (λy=>M.pure (some y)) ae=.ok (some Y.ag) ao:=by
  rw[aN (aT rfl e)];rfl
 have a:dG (.fix [x.ag,y.ag]) (λf=>M.bind (aj (cx P sc n) (.call 61 {.aa 9,.aa 1,.aa 2}) (cq (dj [some (Tm.ak u x y).ag,some (.ref d),some st,some (.str u.str),none,none,none,none,none,none] [1,2]) 9 f)) λy=>M.pure (some y)) 3 0 U=.ok [X.ag,Y.ag] ao:=
  gF (n:=2) (y:=some X.ag) (r:=[Y.ag]) (ae:=U) rfl f1 (gF (n:=1) (y:=some Y.ag) (r:=[]) rfl f2 (kM rfl))
 have g:kn (.ref ao.length) (ao++[.af [X.ag,Y.ag]])=.ok (.ay [X.ag,Y.ag]) (ao++[.af [X.ag,Y.ag]]):=by
  show M.bind (bO _) _ _=_;rw[aN (d8 bA)];rfl
 have b:a8 (cx P sc n) {.ret (.ak .Add (.ay {.aa 3}) (.tuple (.comp (.call 61 {.aa 9,.aa 1,.aa 2}) 9 [1,2] (.slc (.aa 0) (.int 1) .none))))} [some (Tm.ak u x y).ag,some (.ref d),some st,some (.str u.str),none,none,none,none,none,none] U=.ok (.ret (Tm.ak u X Y).ag) [some (Tm.ak u x y).ag,some (.ref d),some st,some (.str u.str),none,none,none,none,none,none] (ao++[.af [X.ag,Y.ag]]):=
  bq (bX (cf rfl ∅) (xg (mf rfl rfl rfl ∅ a) g) rfl)
 refine mh B (λ_ _=>rfl) (Eq.trans ?_ b);(clear b a f2 f1;cases u)<;>exact jmp 5 ⋯ (cj ⋯)
def Sh(a:av P sc n 61 [x.ag,.ref d,st] U=.ok X.ag ae)(b:av P sc n 61 [y.ag,.ref d,st] ae=.ok Y.ag ao)(c:av P sc n 61 [z.ag,.ref d,st] ao=.ok Z.ag b9):
  av P sc (n+1) 61 [(Tm.when x y z).ag,.ref d,st] U=.ok (Tm.when X Y Z).ag (b9++[.af [X.ag,Y.ag,Z.ag]]):=by
 have f1:M.bind (aj (cx P sc n) (.call 61 {.aa 9,.aa 1,.aa 2}) (cq (dj [some (Tm.when x y z).ag,some (.ref d),some st,some (.str "when"),none,none,none,none,none,none] [1,2]) 9 x.ag)) (λy=>M.pure (some y)) U=.ok (some X.ag) ae:=by
  rw[aN (aT rfl a)];rfl
 have f2:M.bind (aj (cx P sc n) (.call 61 {.aa 9,.aa 1,.aa 2}) (cq (dj [some (Tm.when x y z).ag,some (.ref d),some st,some (.str "when"),none,none,none,none,none,none] [1,2]) 9 y.ag)) (λy=>M.pure (some y)) ae=.ok (some Y.ag) ao:=by
  rw[aN (aT rfl b)];rfl
 have f3:M.bind (aj (cx P sc n) (.call 61 {.aa 9,.aa 1,.aa 2}) (cq (dj [some (Tm.when x y z).ag,some (.ref d),some st,some (.str "when"),none,none,none,none,none,none] [1,2]) 9 z.ag)) (λy=>M.pure (some y)) ao=.ok (some Z.ag) b9:=by
  rw[aN (aT rfl c)];rfl
 have e:dG (.fix [x.ag,y.ag,z.ag]) (λf=>M.bind (aj (cx P sc n) (.call 61 {.aa 9,.aa 1,.aa 2}) (cq (dj [some (Tm.when x y z).ag,some (.ref d),some st,some (.str "when"),none,none,none,none,none,none] [1,2]) 9 f)) λy=>M.pure (some y)) 4 0 U=.ok [X.ag,Y.ag,Z.ag] b9:=
  gF (n:=3) (y:=some X.ag) (r:=[Y.ag,Z.ag]) (ae:=U) rfl f1 (gF (n:=2) (y:=some Y.ag) (r:=[Z.ag]) (ae:=ae) rfl f2 (gF (n:=1) (y:=some Z.ag) (r:=[]) rfl f3 (kM rfl)))
 have g:kn (.ref b9.length) (b9++[.af [X.ag,Y.ag,Z.ag]])=.ok (.ay [X.ag,Y.ag,Z.ag]) (b9++[.af [X.ag,Y.ag,Z.ag]]):=by
  show M.bind (bO _) _ _=_;rw[aN (d8 bA)];rfl
 have h:a8 (cx P sc n) {.ret (.ak .Add (.ay {.aa 3}) (.tuple (.comp (.call 61 {.aa 9,.aa 1,.aa 2}) 9 [1,2] (.slc (.aa 0) (.int 1) .none))))} [some (Tm.when x y z).ag,some (.ref d),some st,some (.str "when"),none,none,none,none,none,none] U=.ok (.ret (Tm.when X Y Z).ag) [some (Tm.when x y z).ag,some (.ref d),some st,some (.str "when"),none,none,none,none,none,none] (b9++[.af [X.ag,Y.ag,Z.ag]]):=
  bq (bX (cf rfl ∅) (xg (mf rfl rfl rfl ∅ e) g) rfl)
 refine mh B (λ_ _=>rfl) (Eq.trans ?_ h);exact jmp 5 ⋯ (cj ⋯)
end
class inductive CS:(Str->Prop)->Tm->Prop
|num {F i}:CS F (.num i)
|name {F x}:CS F (.name x)
|un {F w a}:CS F a->CS F (.un w a)
|use {F g a}:F g->CS F a->CS F (.use g a)
|ak {F w a b}:CS F a->CS F b->CS F (.ak w a b)
|when {F a b c}:CS F a->CS F b->CS F c->CS F (.when a b c)
|aY {F x a b}:CS F a->CS F b->CS F (.aY x a b)
|bg {F n x a b}:(0<=n/\n<=9)->CS F a->CS F b->CS F (.bg n x a b)
|def_ {F g x kd a b}:CS F a->CS (λy=>g=y∨F y) b->CS F (.def_ g x kd a b)
def CS.mono(h:CS F t):∀d:Str->Prop,(∀x,F x->d x)->CS d t:=by
 induction h with
|num=>exact λ_ _=>.num
|name=>exact λ_ _=>.name
|un _ c=>exact λ_ q=>.un (c _ q)
|use h _ c=>exact λ_ q=>.use (q _ h) (c _ q)
|ak _ _ a b=>exact λ_ q=>.ak (a _ q) (b _ q)
|when _ _ _ a b e=>exact λ_ q=>.when (a _ q) (b _ q) (e _ q)
|aY _ _ a b=>exact λ_ q=>.aY (a _ q) (b _ q)
|bg f _ _ a b=>exact λ_ q=>.bg f (a _ q) (b _ q)
|def_ _ _ a b=>exact λ_ q=>.def_ (a _ q) (b _ λx=>Or.imp id (q x))
section
variable{P:Prog}{sc:List Int}(B:nC P)
include B
abbrev Ja:SL:=match yw.body with
|.cons _ r=>r
|_=>.nil
def rL{n d:Nat}{t:Tm}{w:Str}(a:∀C L,aj C (.aq (.aa 0) (.int 0)) (some t.ag::L) U=.ok (.str w) U)(h:a8 (cx P sc n) Ja [some t.ag,some (.ref d),some (.str w),none,none] U=.ok (.ret v) L' ah):av P sc (n+1) 40 [t.ag,.ref d] U=.ok v ah:=by rw[cI B.JV rfl];exact(congrArg cp ((bj (a _ _)).trans h)).trans rfl
def vG{n d:Nat}{t:Tm}{w:Str}(b:∀C L,aj C (.aq (.aa 0) (.int 0)) (some t.ag::L) U=.ok (.str w) U)(c:U[d]?=some (.az es))(e:t.cost φ=1+(t.parts.map λp=>p.cost φ).sum)(i:∀L,L=[some t.ag,some (.ref d),some (.str w),none,none]->a8 (cx P sc (n+1)) Ja L U=a8 (cx P sc (n+1)) {.ret (.ak .Add (.int 1) (.sum (.comp (.call 40 {.aa 4,.aa 1}) 4 [1] (.call 10 {.aa 0}))))} L U)(j:∀p∈t.parts,∀U,U[d]?=some (.az es)->∃τ,av P sc (n+1) 40 [p.ag,.ref d] U=.ok (.int (p.cost φ)) (U++τ)):∃τ,av P sc (n+2) 40 [t.ag,.ref d] U=.ok (.int (t.cost φ)) (U++τ):=by
 obtain⟨τ,k⟩:=Oi (I:=λs=>s[d]?=some (.az es)) (λ_ _ h=>old h) (g:=λp=>.int (p.cost φ)) (f:=λm=>M.bind (aj (cx P sc (n+1)) (.call 40 {.aa 4,.aa 1}) (cq (dj [some t.ag,some (.ref d),some (.str w),none,none] [1]) 4 m)) λy=>M.pure (some y)) (l:=U.length) (ts:=t.parts) (λp o s q=>by
  obtain⟨τ,r⟩:=j p o s q;refine#[τ,?_];rw[aN (aT (by rfl) r)]
  rfl) t.parts [] (U++[.af (t.parts.map Tm.ag)]) rfl (old c) bA
 have a:∀s:H,oR (.ref s.length) (s++[.af (t.parts.map λp=>V.int (p.cost φ))])=.ok (.int (t.parts.map λp=>p.cost φ).sum) (s++[.af (t.parts.map λp=>V.int (p.cost φ))]):=λs=>by
  show M.bind (bO _) _ _=_;rw[aN (d8 bA),qU];rfl
 refine#[[.af (t.parts.map Tm.ag)]++τ++[.af (t.parts.map λp=>V.int (p.cost φ))],?_];rw[←List.append_assoc,←List.append_assoc];exact rL B b ((i _ rfl).trans (bq (bX rfl (AR (mf (aT (aS rfl a6) (yF B.ym t n U)) (by(refine pg▸?_;refine(aN (d8 bA))▸?_);rfl) (by(refine pa▸?_;refine(aN (d8 bA))▸?_);simp[M.pure]) (bZ (rb t) ∅) k) (a _)) (by(refine e▸?_);rfl))))
def E4(h:CS F t):∀(n d:Nat)(es:List (Str×V))(f:Str->Int)(U:H),t.depth<=n->U[d]?=some (.az es)->es.length+t.depth<=aJ->(∀g,F g->dn es g=some (.int (f g)))->∃τ,av P sc (n+1) 40 [t.ag,.ref d] U=.ok (.int (t.cost f)) (U++τ):=by
 induction h with
|num=>exact λn d es f U o k l i=>#[[],by rw[List.append_nil];exact rL B (λ_ _=>rfl) (cu ⋯ (bq rfl))]
|name=>exact λn d es f U o k l i=>#[[],by rw[List.append_nil];exact rL B (λ_ _=>rfl) (cu ⋯ (bq rfl))]
|@use F g a Z D J=>
  intro n d es f U o k l i;have r:(Tm.use g a).depth=1+a.depth:=rfl;obtain⟨m,rfl⟩:∃m,n=m+1:=#[n-1,by(exact qO ())];obtain⟨τ,e⟩:=J m d es f U (nd (aU _) ()) k (zz (aU _) ()) i;exact#[τ,rL B (λ_ _=>rfl) (jmp 3 ⋯ (cu ⋯ (bq (bX (bX rfl (cC (aB rfl) rfl (jF k (i g Z))) rfl) (aT rfl e) rfl))))]
|@un F w a D J=>
  intro n d es f U o k l i;have r:(Tm.un w a).depth=1+a.depth:=rfl;obtain⟨m,rfl⟩:∃m,n=m+1:=#[n-1,by(exact qO ())];refine vG B (λ_ _=>rfl) k rfl (λL C=>?_) (λp u s v=>?_)
  ·subst C;exact(cj (ae:=U) (by(clear o r l;cases w)<;>rfl')).trans ((cj (ae:=U) (by(clear o r l;cases w)<;>rfl')).trans ((cj (ae:=U) (by(clear o r l;cases w)<;>rfl')).trans (cj (ae:=U) (by(clear o r l;cases w)<;>rfl'))))
  ·(refine(List.mem_singleton.mp u)▸?_);exact J m d es f s (nd (aU _) ()) v (zz (aU _) ()) i
|@ak F w a b D hb z A=>
  intro n d es f U o k l i;have r:(Tm.ak w a b).depth=1+max a.depth b.depth:=rfl;obtain⟨m,rfl⟩:∃m,n=m+1:=#[n-1,by(exact qO ())];refine vG B (λ_ _=>rfl) k rfl (λL C=>?_) (λp u s v=>?_)
  ·subst C;exact(cj (ae:=U) (by(clear o r l;cases w)<;>rfl')).trans ((cj (ae:=U) (by(clear o r l;cases w)<;>rfl')).trans ((cj (ae:=U) (by(clear o r l;cases w)<;>rfl')).trans (cj (ae:=U) (by(clear o r l;cases w)<;>rfl'))))
  ·rcases List.mem_cons.mp u with rfl|u
   ·exact z m d es f s (nd mL ()) v (zz mL ()) i
   ·(refine(List.mem_singleton.mp u)▸?_);exact A m d es f s (nd mR ()) v (zz mR ()) i
|@when F a b c D hb iv z A gC=>
  intro n d es f U o k l i;have r:(Tm.when a b c).depth=1+max a.depth (max b.depth c.depth):=rfl;obtain⟨m,rfl⟩:∃m,n=m+1:=#[n-1,by(exact qO ())];refine vG B (λ_ _=>rfl) k rfl (λL C=>?_) (λp u s v=>?_)
  ·subst C;exact jmp 3 ⋯ (cj ⋯)
  ·rcases List.mem_cons.mp u with rfl|u
   ·exact z m d es f s (nd mL ()) v (zz mL ()) i
   ·rcases List.mem_cons.mp u with rfl|u
    ·exact A m d es f s (nd mM ()) v (zz mM ()) i
    ·(refine(List.mem_singleton.mp u)▸?_);exact gC m d es f s (nd mC ()) v (zz mC ()) i
|@aY F x a b D hb z A=>
  intro n d es f U o k l i;have r:(Tm.aY x a b).depth=1+max a.depth b.depth:=rfl;obtain⟨m,rfl⟩:∃m,n=m+1:=#[n-1,by(exact qO ())];refine vG B (λ_ _=>rfl) k rfl (λL C=>?_) (λp u s v=>?_)
  ·subst C;exact jmp 3 ⋯ (cj ⋯)
  ·rcases List.mem_cons.mp u with rfl|u
   ·exact z m d es f s (nd mL ()) v (zz mL ()) i
   ·(refine(List.mem_singleton.mp u)▸?_);exact A m d es f s (nd mR ()) v (zz mR ()) i
|@bg F j x a b Y D hb z A=>
  intro n d es f U o k l i;have r:(Tm.bg j x a b).depth=1+max a.depth b.depth:=rfl;obtain⟨m,rfl⟩:∃m,n=m+1:=#[n-1,by(exact qO ())];obtain⟨G,K⟩:=z m d es f U (nd mL ()) k (zz mL ()) i;refine cb (A m d es f (U++G) (nd mR ()) (old k) (zz mR ()) i) λQ R=>?_;have T:small j=true:=zP Y.1 (Int.lt_of_le_of_lt Y.2 ∅);refine#[G++Q,?_];rw[←List.append_assoc];exact rL B (λ_ _=>rfl) (jmp 1 ⋯ (cu ⋯ (bq (bX (bX rfl (aT rfl K) rfl) (bX ⋯ (aT rfl R) (F6 T _)) rfl))))
|@def_ F g x kd a b D hb z A=>
  intro n d es f U o k l i;have r:(Tm.def_ g x kd a b).depth=1+max a.depth b.depth:=rfl;obtain⟨m,rfl⟩:∃m,n=m+1:=#[n-1,by(exact qO ())];obtain⟨G,K⟩:=z m d es f U (nd mL ()) k (zz mL ()) i;have I:=gX es g (.int (a.cost f))
  obtain⟨Q,R⟩:=A m (U++G).length (bp es g (.int (a.cost f))) (λy=>if g==y then a.cost f else f y) (U++G++[.az (bp es g (.int (a.cost f)))]) (nd mR ()) bA (lL tA rfl l r I) (λy hy=>by
   rw[n9];show(if g==y then _ else _)=some (V.int (if g==y then _ else _));cases X:(g==y) with
   |true=>rfl
   |false=>exact i y (hy.resolve_left λq=>by(replace X:=q▸X);simp at X))
  refine#[G++([.az (bp es g (.int (a.cost f)))]++Q),?_];rw[←List.append_assoc,←List.append_assoc];exact rL B (λ_ _=>rfl) (jmp 2 ⋯ (cu ⋯ ((bj (aT (aS rfl (ax rfl (ax (aT rfl K) a6))) (l7 B (old k) (iQ ())))).trans (bq (bX rfl (aT rfl R) rfl)))))
end
end Qh
set_option tactic.hygienic true
namespace Qh
open PySem
def eA.cs(h:eA q Δ p):CS (λg=>Δ g=some .f) p:=by
 induction h with
|num=>exact .num
|name _=>exact .name
|use h _ ih=>exact .use h ih
|un _ _ ih=>exact .un ih
|ak _ _ h1 h2=>exact .ak h1 h2
|when _ _ _ h1 h2 h3=>exact .when h1 h2 h3
|aY _ _ h1 h2=>exact .aY h1 (h2.mono _ λx q=>by unfold cV at q;split at q;cases q;exact q)
|bg hn _ _ h1 h2=>exact .bg hn h1 (h2.mono _ λx q=>by unfold cV at q;split at q;cases q;exact q)
|def_ _ _ h1 h2=>exact .def_ (h1.mono _ λx q=>by unfold cV at q;split at q;cases q;exact q) (h2.mono _ λx q=>by
   unfold cV at q;split at q
   ·rename_i e;exact .inl (beq_iff_eq.mp e)
   ·exact .inr q)
abbrev o7(a:Sc)(g:Str):Prop:=∃l ka k,look a g=some #[g,l,.fn ka k]
def o7.val(h:o7 (Γ++[#[x,l,.val k]]) g):o7 Γ g:=by
 refine ll (h) λb c d a=>?_;rw[iD] at a;cases hx:(x==g) with
|true=>(replace a:=(if_pos rfl)▸(hx▸a));cases a
|false=>(replace a:=hx▸a);exact#[b,c,d,a]
def o7.fn(h:o7 (Γ++[#[x,l,.fn a r]]) g):x=g∨o7 Γ g:=by
 refine ll (h) λc d e b=>?_;rw[iD] at b;cases hx:(x==g) with
|true=>exact .inl (beq_iff_eq.mp hx)
|false=>(replace b:=hx▸b);exact .inr #[c,d,e,b]
def HG.cs(h:HG d Γ l f t k):CS (o7 Γ) t:=by
 induction h with
|num=>exact .num
|name _=>exact .name
|kB _=>exact .un .name
|la _=>exact .un .name
|lb=>exact .un .num
|lp=>exact .un .num
|when _ _ _ a b e=>exact .when a b e
|use g _ c=>exact .use #[_,_,_,g] c
|aY _ _ a b=>exact .aY a (b.mono _ λ_ q=>q.val)
|bg i _ _ a b=>exact .bg i a (b.mono _ λ_ q=>q.val)
|def_ _ _ _ a b=>exact .def_ (a.mono _ λ_ q=>q.val) (b.mono _ λ_ q=>q.fn)
|bK _ c=>exact .un c
|hole _ c=>exact .un c
|lift _ c=>exact .un c
|run _ c=>exact .un c
|ak _ _ a b=>exact .ak a b
|kept _ _ a b=>exact .aY a (.un (.aY (.un .name) (.un (b.mono _ λ_ q=>q.val.val))))
|twice _ _ _ a b e=>exact .aY a (.un (.aY (.un .name) (.un (.aY .num (.ak (b.mono _ λ_ q=>q.val.val.val) (e.mono _ λ_ q=>q.val.val.val))))))
def D7{α:Type}{f:V->M (Option V)}{h g:α->V}{l:Nat}{ts:List α}(e:∀t∈ts,∀U,∃τ,f (h t) U=.ok (some (g t)) (U++τ)):
  ∀(rest a:List α)(U:H),ts=a++rest->U[l]?=some (.af (ts.map h))->∃τ,dG (.live l) f (rest.length+1) a.length U=.ok (rest.map g) (U++τ):=by
 intro rest
 induction rest with
|nil=>
  intro a U b c;refine#[[],?_];rw[List.append_nil];exact kM (by(refine jz▸?_;refine(aN (d8 c))▸?_);simp[M.pure,b])
|cons t rest i=>
  intro a U b c;obtain⟨τ,j⟩:=e t (by(refine b▸?_);simp) U;obtain⟨m,d⟩:=i (a++[t]) (U++τ) (by(refine b▸?_);simp) (old c);refine#[τ++m,?_];replace d:=(List.length_singleton)▸((List.length_append)▸d);have:=gF (k:=a.length) (U:=U) (ae:=U) (v:=h t) (by(refine jz▸?_;refine(aN (d8 c))▸?_);simp[M.pure,b]) j d;rw[List.length_cons,this,List.append_assoc];rfl
abbrev mv(t:Tm):V:=.ay [.int t.size,.int t.depth]
section
variable{P:Prog}{sc:List Int}(B:nC P)
include B
def Gf{n:Nat}{elt:E}{L:aP}{v:Nat}{l:Nat}{ts:List Tm}{g:Tm->V}{src:E}(a:U[l]?=some (.af (ts.map mv)))(b:ts.length<=aJ)(c:aj (cx P sc n) src L U=.ok (.ref l) U)(d:∀t:Tm,∀s,aj (cx P sc n) elt (cq (dj L []) v (mv t)) s=.ok (g t) s):∃τ,aj (cx P sc n) (.comp elt v [] src) L U=.ok (.ref (U++τ).length) (U++τ++[.af (ts.map g)]):=by exact cb (D7 (f:=λe=>M.bind (aj (cx P sc n) elt (cq (dj L []) v e)) λy=>M.pure (some y)) (h:=mv) (g:=g) (l:=l) (ts:=ts) (λt _ s=>#[[],by rw[aN (d t s),List.append_nil];rfl]) ts [] U rfl a) λτ i=>#[τ,mf c (by(refine pg▸?_;refine(aN (d8 a))▸?_);rfl) (by(refine pa▸?_;refine(aN (d8 a))▸?_);simp[M.pure]) b i]
def D8:∀(n:Nat)(t:Tm)(U:H),t.depth<=n->∃τ,av P sc (n+1) 56 [t.ag] U=.ok (mv t) (U++τ)
|0=>λt U h=>absurd h (by have:=vD t;exact Nat.not_le.mpr (a7 v7 rfl this))
|n+1=>λt U h=>by
  rw[cI B.JW rfl];have a:t.parts.length<=aJ:=bZ (rb t) ∅;have q:(U++[O.af (t.parts.map Tm.ag)])[U.length]?=some (.af (t.parts.map Tm.ag)):=by simp
  obtain⟨τ,r⟩:=D7 (h:=Tm.ag) (g:=mv) (f:=λu=>M.bind (aj (cx P sc (n+1)) (.call 56 {.aa 2}) (cq (dj [some t.ag,none,none] []) 2 u)) λy=>M.pure (some y)) (l:=U.length) (ts:=t.parts) (λp w s=>by
   obtain⟨τ,x⟩:=D8 n p s (by have:=yG t p w;exact bD zq rfl h this);refine#[τ,?_];rw[aN (aT (by rfl) x)]
   rfl) t.parts [] _ rfl q
  have o:=mf (C:=cx P sc (n+1)) (L:=[some t.ag,none,none]) (aT (aS (i:=0) rfl a6) (yF B.ym t n U)) (sr:=.live U.length) (k:=t.parts.length) (by(refine pg▸?_;refine(aN (d8 bA))▸?_);rfl) (by(refine pa▸?_;refine(aN (d8 bA))▸?_);simp[M.pure]) a r;generalize j:U++[O.af (t.parts.map Tm.ag)]++τ=ao at o;have b:(ao++[.af (t.parts.map mv)])[ao.length]?=some (.af (t.parts.map mv)):=bA;refine cb (Gf (sc:=sc) B (n:=n+1) (elt:=.aq (.aa 2) (.int 0)) (L:=[some t.ag,some (.ref ao.length),none]) (v:=2) (g:=λt=>.int t.size) (src:=.aa 1) b a (aB rfl) λt s=>rfl) λe z=>?_;have c:=old (τ:=e++[.af (t.parts.map λt=>V.int t.size)]) b;rw[←List.append_assoc] at c;refine cb (Gf (sc:=sc) B (n:=n+1) (elt:=.aq (.aa 2) (.int 1)) (L:=[some t.ag,some (.ref ao.length),none]) (v:=2) (g:=λt=>.int t.depth) (src:=.aa 1) c a (aB rfl) λt s=>rfl) λm A=>?_;have d:∀s:H,oR (.ref s.length) (s++[.af (t.parts.map λp=>V.int p.size)])=.ok (.int (t.parts.map λp=>(p.size:Int)).sum) (s++[.af (t.parts.map λp=>V.int p.size)]):=λs=>by
   show M.bind (bO _) _ _=_;rw[aN (d8 bA),qU];rfl
  have D:∀s:H,qh (.ref s.length) (s++[.af (t.parts.map λp=>V.int p.depth)])=.ok (.int (se (t.parts.map λp=>(p.depth:Int)))) (s++[.af (t.parts.map λp=>V.int p.depth)]):=λs=>by
   show M.bind (bO _) _ _=_;rw[aN (d8 bA),qU];rfl
  refine#[[O.af (t.parts.map Tm.ag)]++τ++[.af (t.parts.map mv)]++e++[.af (t.parts.map λp=>V.int p.size)]++m++[.af (t.parts.map λp=>V.int p.depth)],?_];have F:U++([O.af (t.parts.map Tm.ag)]++τ++[.af (t.parts.map mv)]++e++[.af (t.parts.map λp=>V.int p.size)]++m++[.af (t.parts.map λp=>V.int p.depth)])=ao++[.af (t.parts.map mv)]++e++[.af (t.parts.map λp=>V.int p.size)]++m++[.af (t.parts.map λp=>V.int p.depth)]:=by(refine j▸?_);simp only[List.append_assoc]
  refine F▸?_;have G:binop .Add (.int 1) (.int (t.parts.map λp=>(p.size:Int)).sum)=λs=>.ok (.int t.size) s:=by funext s;(refine(Dt t)▸?_);rfl
  have I:binop .Add (.int 1) (.int (se (t.parts.map λp=>(p.depth:Int))))=λs=>.ok (.int t.depth) s:=by funext s;(refine(CW t)▸?_);rfl
  exact(congrArg cp ((bj o).trans (bq (cf (ax (bX rfl (AR z (d _)) (by(refine G▸?_;with_reducible rfl))) (ax (bX rfl (GK A (D _)) (by(refine I▸?_;with_reducible rfl))) a6)) ∅)))).trans rfl
end
end Qh
set_option tactic.hygienic false
namespace Qh
open PySem
def oQ(a b:Int)(U:H):dh .Gt (.int a) (.int b) U=.ok (decide (b<a)) U:=rfl
section
variable{P:Prog}{sc:List Int}(B:nC P)
include B
def Oo(b:U[st]?=some (eu s))(e:5000<s.c):av P sc (n+1) 58 [(Tm.un .bK a).ag,.ref d,.ref st] U=.ok (Tm.num 0).ag U:=
 iT B (λ_ _=>rfl) (jmp 2 ⋯ (cu ⋯ (cu (cZ (cC (aB rfl) rfl (dP b rfl ∅ ∅)) rfl (by rw[oQ,decide_eq_true e])) (bq rfl))))
def Qt(g:U[st]?=some (eu s))(r:¬ 5000<s.c)(i:av P sc (n+1) 61 [a.ag,.ref d,.ref st] U=.ok p.ag ae)(u:ae[st]?=some (eu s1))(w:p.depth<=n):
  ∃τ,av P sc (n+2) 58 [(Tm.un .bK a).ag,.ref d,.ref st] U=.ok (iP p s1).1.v ((ae++τ).set st (eu (iP p s1).2)):=by
 refine cb (D8 (sc:=sc) B n p ae w) λτ j=>?_;have e:=old (τ:=τ) u;have z:((ae++τ).set st (eu #[s1.k,s1.fl,s1.c+p.size]))[st]?=some (eu #[s1.k,s1.fl,s1.c+p.size]):=gy e;have l:∀L:aP,cy L 2=some (.ref st)->bQ (cx P sc (n+1)) (.cmp .Gt (.aq (.aa 2) (.int 2)) (.int 5000)) L U=.ok false U:=λL h=>cZ (cC (aB h) (y:=.int 2) rfl (dP g (x:=.int s.c) rfl ∅ ∅)) (y:=.int 5000) rfl (by rw[oQ,decide_eq_false r]);have f:∀(L:aP)(s':H),cy L 7=some (mv p)->bQ (cx P sc (n+1)) (.or {.cmp .Gt (.aq (.aa 7) (.int 0)) (.int 2000),.cmp .Gt (.aq (.aa 7) (.int 1)) (.int 30)}) L s'=.ok (decide (2000<p.size∨30<p.depth)) s':=λL s' h=>by
  have m:aj (cx P sc (n+1)) (.aq (.aa 7) (.int 0)) L s'=.ok (.int p.size) s':=cC (aB h) (y:=.int 0) rfl rfl;have o:aj (cx P sc (n+1)) (.aq (.aa 7) (.int 1)) L s'=.ok (.int p.depth) s':=cC (aB h) (y:=.int 1) rfl rfl
  by_cases c1:2000<p.size
  ·rw[decide_eq_true (Or.inl c1)];exact ic (any_cons (t:=true) (cZ m (y:=.int 2000) rfl (by rw[oQ,decide_eq_true (~~~bw 0x3018501ff0490492053018501ff rfl (Int.ofNat_lt.mpr c1))])) (~~~tf) (λ_=>#[rfl,rfl]))
  ·refine ic (any_cons (t:=false) (cZ m (y:=.int 2000) rfl (by rw[oQ,decide_eq_false (~~~Int.not_lt.mpr (bw Fu rfl (Int.ofNat_le.mpr (Nat.not_lt.mp c1))))])) (λ_=>?_) (~~~ff))
   by_cases c2:30<p.depth
   ·rw[decide_eq_true (Or.inr c2)];exact any_cons (t:=true) (cZ o (y:=.int 30) rfl (by rw[oQ,decide_eq_true (~~~bw 0x30187e04904920530187e rfl (Int.ofNat_lt.mpr c2))])) (~~~tf) (λ_=>#[rfl,rfl])
   ·rw[decide_eq_false (λq=>q.elim c1 c2)];exact any_cons (t:=false) (cZ o (y:=.int 30) rfl (by rw[oQ,decide_eq_false (~~~Int.not_lt.mpr (bw Fv rfl (Int.ofNat_le.mpr (Nat.not_lt.mp c2))))])) (λ_=>any_nil) (~~~ff)
 refine#[τ,?_];unfold iP
 by_cases b:2000<p.size∨30<p.depth
 ·rw[if_pos b];rw[decide_eq_true b] at f;have A:(ae++τ).set st (eu #[s1.k,true,s1.c+p.size])=((ae++τ).set st (eu #[s1.k,s1.fl,s1.c+p.size])).set st (eu #[s1.k,true,s1.c+p.size]):=by rw[List.set_set]
  rw[A];exact iT B (λ_ _=>rfl) (jmp 2 ⋯ (cu ⋯ ((cj (l _ rfl)).trans ((bj (aT rfl i)).trans ((bj (aT rfl j)).trans ((dt (j7 (bX (cC (aB rfl) rfl (dP e rfl ∅ ∅)) rfl rfl) (aB rfl) rfl (mq e #[∅,(by decide:(2:Int)<3),nb rfl]))).trans (cu (f _ _ rfl) ((dt (j7 rfl (aB rfl) rfl (mq z #[∅,(by decide:(1:Int)<3),nb rfl]))).trans (bq rfl)))))))))
 ·rw[if_neg b];rw[decide_eq_false b] at f;exact iT B (λ_ _=>rfl) (jmp 2 ⋯ (cu ⋯ ((cj (l _ rfl)).trans ((bj (aT rfl i)).trans ((bj (aT rfl j)).trans ((dt (j7 (bX (cC (aB rfl) rfl (dP e rfl ∅ ∅)) rfl rfl) (aB rfl) rfl (mq e #[∅,(by decide:(2:Int)<3),nb rfl]))).trans ((cj (f _ _ rfl)).trans (bq (aB rfl)))))))))
end
def Bn(h:b<a)(U:H):dh .Gt (.int a) (.int b) U=.ok true U:=by rw[oQ,decide_eq_true h]
def Jb(h:¬ b<a)(U:H):dh .Gt (.int a) (.int b) U=.ok false U:=by rw[oQ,decide_eq_false h]
section
variable{P:Prog}{sc:List Int}(B:nC P)
include B
def Ua{n d st:Nat}{a p:Tm}{s1:Sg}(l:av P sc n 58 [a.ag,.ref d,.ref st] U=.ok p.ag ae)(h:ae[st]?=some (eu s1))(m:av P sc n 40 [p.ag,.ref ae.length] (ae++[O.az []])=.ok (.int p.eO) (ae++[O.az []]++τ))(e:¬ 5000<s1.c+p.eO->av P sc n 58 [p.ag,.ref (ae++[O.az []]++τ).length,.ref st] ((ae++[O.az []]++τ).set st (eu #[s1.k,s1.fl,s1.c+p.eO])++[O.az []])=.ok v b9):
  av P sc (n+1) 58 [(Tm.un .run a).ag,.ref d,.ref st] U=if 5000<s1.c+p.eO then .ok (.int 0) ((ae++[O.az []]++τ).set st (eu #[s1.k,s1.fl,s1.c+p.eO])) else .ok v b9:=by
 have i:=old (τ:=τ) (old (τ:=[O.az []]) h);have f:((ae++[O.az []]++τ).set st (eu #[s1.k,s1.fl,s1.c+p.eO]))[st]?=some (eu #[s1.k,s1.fl,s1.c+p.eO]):=gy i;have b:((ae++[O.az []]++τ).set st (eu #[s1.k,s1.fl,s1.c+p.eO])).length=(ae++[O.az []]++τ).length:=List.length_set ..;generalize j:(ae++[O.az []]++τ).set st (eu #[s1.k,s1.fl,s1.c+p.eO])=S at f e b ⊢
 by_cases g:5000<s1.c+p.eO
 ·rw[if_pos g,←j];rw[←j] at f;exact iT B (w:="run") (λ_ _=>rfl) (jmp 4 ⋯ (cu (ae:=U) ⋯ ((bj (aT (by rfl) l)).trans ((dt (j7 (bX (cC (aB rfl) (y:=.int 2) rfl (dP h (x:=.int s1.c) rfl ∅ ∅)) (aT (aS rfl (ax (x:=.ref ae.length) (ae:=ae++[O.az []]) rfl a6)) m) rfl) (aB rfl) rfl (mq (k:=2) i #[∅,(by decide:(2:Int)<3),nb rfl]))).trans (cu (cZ (cC (aB rfl) (y:=.int 2) rfl (dP f (x:=.int (s1.c+p.eO)) rfl ∅ ∅)) rfl (Bn g _)) (bq rfl))))))
 ·rw[if_neg g];have e:=e g;rw[←b] at e;rw[←j] at f e;exact iT B (λ_ _=>rfl) (jmp 4 ⋯ (cu ⋯ ((bj (aT rfl l)).trans ((dt (j7 (bX (cC (aB rfl) rfl (dP h rfl ∅ ∅)) (aT (aS rfl (ax rfl a6)) m) rfl) (aB rfl) rfl (mq i #[∅,(by decide:(2:Int)<3),nb rfl]))).trans ((cj (cZ (cC (aB rfl) rfl (dP f rfl ∅ ∅)) rfl (Jb g _))).trans (bq (aT rfl e)))))))
def Oq:
  xU (λn t d U=>av P sc n 58 [t.ag,.ref d,st] U) (λU v x b d=>∃l,v=.ref l/\U[l]?=some (.af [.str x,b.ag,.ref d])) (λ_=>True) where
 add _:=trivial
 uK:=λ#[l,c,o]=>#[l,c,old o]
 new U x b d:=#[[.af [.str x,b.ag,.ref d]],.ref U.length,_,rfl,bA]
 num {U d i} n hn:=by
  obtain⟨k,rfl⟩:∃k,n=k+1:=#[n-1,~~~cm (a7 iW rfl) (a7 tB rfl hn)];exact#[[],by rw[List.append_nil];exact HV B U]
 name hd y n hn:=by
  obtain⟨k,rfl⟩:∃k,n=k+1:=#[n-1,~~~cm (a7 iW rfl) (a7 tB rfl hn)];exact#[[],by rw[List.append_nil];exact GZ B hd y]
 ak _ hN c o hi n hn:=by
  obtain⟨k,rfl⟩:∃k,n=k+1:=#[n-1,~~~cm (a7 iW rfl) (aM zt rfl hn)];obtain⟨r,u⟩:=c k (cE (bG ()));obtain⟨w,a⟩:=o r k (cE (bG ()));obtain⟨C,A⟩:=HW B u a hi;exact#[r++w++C,by rw[fK,fK] at A;rw[fK];exact A]
 when _ hN c o n hn:=by
  obtain⟨k,rfl⟩:∃k,n=k+1:=#[n-1,~~~cm (a7 iW rfl) (aM zt rfl hn)];obtain⟨r,u⟩:=c k (cE (bG ()));obtain⟨w,a⟩:=o r k (cE (bG ()));exact#[r++w,by rw[←fK];exact G0 B u a]
 aY _ hN hd hl c o n hn:=by
  obtain⟨k,rfl⟩:∃k,n=k+3:=#[n-3,~~~cm (a7 iX rfl) (aM wu rfl hN hn)];obtain⟨r,u⟩:=c (k+1) (Nat.le_of_add_le_add_right ());obtain⟨w,a⟩:=o r (k+1) (Nat.le_of_add_le_add_right ());exact#[_,by rw[←fK,←fK];exact HY B u (old hd) hl a]
 bg {U d N m x p q es i f} _ hN hd hl hk hf hi c o n hn:=by
  obtain⟨k,rfl⟩:∃k,n=k+3:=#[n-3,~~~cm (a7 iX rfl) (aM wu rfl hN hn)];obtain⟨r,u⟩:=c (k+1) (Nat.le_of_add_le_add_right ())
  obtain⟨v,G,a,w,y,D⟩:=Ge B #[hk.1,~~~bw tD rfl hk.2] u (λj v s=>∃τ,v=.int (iter f j i)/\s=U++τ) #[r,rfl,rfl] (λj v s I F=>by
   obtain⟨τ,rfl,rfl⟩:=F;obtain⟨w,a⟩:=o τ (iter f j i) (tv hf _ _ hi) (k+1) (Nat.le_of_add_le_add_right ())
   exact#[es,old hd,hl,_,_,a,_,rfl,by rw[fK,fK]])
  rw[y,D] at a;exact#[w,a]
 def_ {U d N g x kd p q v es} _ hN hd hl h n hn:=by
  obtain⟨k,rfl⟩:∃k,n=k+3:=#[n-3,~~~cm (a7 iX rfl) (aM wu rfl hN hn)];obtain⟨τ,e⟩:=h [.af [.str x,p.ag,.ref d]] (.ref U.length) #[_,rfl,bA] (k+1) (Nat.le_of_add_le_add_right ());rw[List.length_append,List.length_singleton] at e;exact#[_,by rw[←fK,←fK];exact HZ B hd hl e]
 use _ hN hd hg z hd' hl c o n hn:=by obtain⟨k,rfl⟩:∃k,n=k+3:=#[n-3,~~~cm (a7 iX rfl) (aM wu rfl hN hn)];obtain⟨l,rfl,z⟩:=z;obtain⟨r,u⟩:=c (k+1) (Nat.le_of_add_le_add_right ());obtain⟨w,a⟩:=o r (k+1) (Nat.le_of_add_le_add_right ());exact#[_,by rw[←fK,←fK];exact H0 B hd hg u (old z) (old hd') hl a]
end
structure Kp(st:Nat)(U ah:H):Prop where
 len:U.length<=ah.length
 same:∀i,i≠st->i<U.length->ah[i]?=U[i]?
section
variable{st:Nat}{U ah da τ:H}
def Kp.refl(U:H):Kp st U U:=#[aU _,λ_ _ _=>rfl]
def Kp.trans(x:Kp st U ah)(y:Kp st ah da):Kp st U da:=#[bZ x.len y.len,λi a b=>(y.same i a (Nat.lt_of_lt_of_le b x.len)).trans (x.same i a b)]
def Kp.get(x:Kp st U ah){i:Nat}{o:O}(h:i≠st)(e:U[i]?=some o):ah[i]?=some o:=(x.same i h (List.getElem?_eq_some_iff.mp e).1).trans e
def Kp.add:Kp st U (U++τ):=#[by simp,λi _ h=>List.getElem?_append_left h]
def Kp.set{o:O}:Kp st U (U.set st o):=#[by simp,λi h _=>List.getElem?_set_ne (Ne.symm h)]
end
def vx(f:Bv->Sg->Bv×Sg):∀(n:Nat)(r:Bv×Sg),dm f (n+1) r=f (dm f n r).1 (dm f n r).2
|0=>λ_=>rfl
|n+1=>λr=>vx f n (f r.1 r.2)
abbrev fa:Nat->Nat
|0=>0
|d+1=>14+2*fa d
abbrev fb(f:Bool)(d VF:Nat):Nat:=bif f then 2*d+max 500 (fa d+max 70 VF) else fa d+max 70 VF
section
variable(st:Nat)(aE:H->Sg->Prop)(bf:H->V->Str->Tm->Nat->Prop)(Out:Lv->Nat->Tm->Nat->H->Bv×Sg->Prop)
abbrev Qu:Prop:=∀{U a v x b d},Kp st U a->bf U v x b d->bf a v x b d
abbrev Si:Prop:=∀{l N a t d U r},Out l N t d U r->N<=a->Out l a t d U r
abbrev Sk:Prop:=∀{U d i s},aE U s->Out .z 1 (.num i) d U (.num (i.fmod 1000003),s)
abbrev Sl:Prop:=∀{U d i s},aE U s->Out .o 1 (.num i) d U (.pc (.num i),s)
abbrev Qv:Prop:=∀{U d es x b s},aE U s->U[d]?=some (.az es)->dn es x=some (Bv.v b)->Out .z 1 (.name x) d U (b,s)
abbrev Qw:Prop:=∀{U d es x y s},aE U s->U[d]?=some (.az es)->dn es x=some (.str y)->Out .o 1 (.name x) d U (.pc (.name y),s)
abbrev Sm:Prop:=∀{U d N a r},1<=N->Out .z N a d U r->Out .o (N+1) (.un .hole a) d U r
abbrev Sn:Prop:=∀{U d N a i s1},1<=N->Out .z N a d U (.num i,s1)->Out .z (N+1) (.un .lift a) d U (.pc (.num i),s1)
abbrev Ot:Prop:=∀{U d a s},aE U s->5000<s.c->Out .z 1 (.un .bK a) d U (.pc (.num 0),s)
abbrev Qx:Prop:=∀{U d N a p s s1},aE U s->¬ 5000<s.c->Out .o N a d U (.pc p,s1)->s.c<=s1.c->p.depth+3<=N->Out .z (N+1) (.un .bK a) d U (iP p s1)
abbrev Ub:Prop:=∀{U d N a p s1},Out .z N a d U (.pc p,s1)->PD (λ_=>none) p->p.depth<=30->p.fr (λ_=>0)<=240->490<=N->Out .z (N+2) (.un .run a) d U (lG p s1)
abbrev So:Prop:=∀{U d N g a x body c es b e u s1 r w},d≠st->U[d]?=some (.az es)->dn es g=some e->bf U e x body c->c≠st->U[c]?=some (.az b)->b.length<=aJ->1<=N->Out .z N a d U (u,s1)->
  (∀ae,Kp st U ae->aE ae s1->Out .z N body ae.length (ae++[.az (bp b x (Bv.v u))]) r)->s1.le w r.2->Out .z (N+2) (.use g a) d U r
abbrev Sp:Prop:=∀{U d N g a y es p s1},U[d]?=some (.az es)->dn es g=some (.str y)->1<=N->Out .o N a d U (.pc p,s1)->Out .o (N+1) (.use g a) d U (.pc (.use y p),s1)
abbrev Sq:Prop:=∀{U d N o a b i j s1 c w},1<=N->small i=true->Out .z N a d U (.num i,s1)->(∀ae,Kp st U ae->aE ae s1->Out .z N b d ae (.num j,c))->s1.le w c->Out .z (N+2) (.ak o a b) d U (.num (jV o i j),c)
abbrev Sr:Prop:=∀{U d N o a b p q s1 c w},1<=N->Out .o N a d U (.pc p,s1)->(∀ae,Kp st U ae->aE ae s1->Out .o N b d ae (.pc q,c))->s1.le w c->Out .o (N+1) (.ak o a b) d U (.pc (.ak o p q),c)
abbrev Qy:Prop:=∀{U d N a b c i s1 r w},1<=N->Out .z N a d U (.num i,s1)->(∀ae,Kp st U ae->aE ae s1->Out .z N (if i=0 then c else b) d ae r)->s1.le w r.2->Out .z (N+2) (.when a b c) d U r
abbrev Qz:Prop:=∀{U d N a b c p q t s1 e f w g},1<=N->Out .o N a d U (.pc p,s1)->(∀ae,Kp st U ae->aE ae s1->Out .o N b d ae (.pc q,e))->s1.le w e->(∀ae,Kp st U ae->aE ae e->Out .o N c d ae (.pc t,f))->e.le g f->Out .o (N+1) (.when a b c) d U (.pc (.when p q t),f)
abbrev Ss:Prop:=∀{U d N x a b u s1 r es w},d≠st->U[d]?=some (.az es)->es.length<=aJ->1<=N->Out .z N a d U (u,s1)->(∀ae,Kp st U ae->aE ae s1->Out .z N b ae.length (ae++[.az (bp es x (Bv.v u))]) r)->s1.le w r.2->Out .z (N+2) (.aY x a b) d U r
abbrev Su:Prop:=∀{U d N x a b p q s s1 c es w},aE U s->0<=s.k->s.k+1<10^10->d≠st->U[d]?=some (.az es)->es.length<=aJ->1<=N->(∀e,Kp st U e->aE e s.new->Out .o N a d e (.pc p,s1))->
  (∀ae,Kp st U ae->aE ae s1->Out .o N b ae.length (ae++[.az (bp es x (.str (vn (s.k+1))))]) (.pc q,c))->s1.le w c->Out .o (N+2) (.aY x a b) d U (.pc (.aY (vn (s.k+1)) p q),c)
abbrev Ou:Prop:=∀{U d N n x a b p q s s1 c es w},aE U s->0<=s.k->s.k+1<10^10->d≠st->U[d]?=some (.az es)->es.length<=aJ->1<=N->(∀e,Kp st U e->aE e s.new->Out .o N a d e (.pc p,s1))->
  (∀ae,Kp st U ae->aE ae s1->Out .o N b ae.length (ae++[.az (bp es x (.str (vn (s.k+1))))]) (.pc q,c))->s1.le w c->Out .o (N+2) (.bg n x a b) d U (.pc (.bg n (vn (s.k+1)) p q),c)
abbrev Ov:Prop:=∀{U d N n x a b c es}{f:Bv->Sg->Bv×Sg},0<=n/\n<=9->d≠st->U[d]?=some (.az es)->es.length<=aJ->1<=N->Out .z N a d U c->
  (∀j ae,j<n.toNat->Kp st U ae->aE ae (dm f j c).2->Out .z N b ae.length (ae++[.az (bp es x (Bv.v (dm f j c).1))]) (dm f (j+1) c))->(∀j,j<n.toNat->∃w,(dm f j c).2.le w (dm f (j+1) c).2)->Out .z (N+2) (.bg n x a b) d U (dm f n.toNat c)
abbrev Sw:Prop:=∀{U d N g x e a b s r es},aE U s->d≠st->U[d]?=some (.az es)->es.length<=aJ->1<=N->(∀ae c,Kp st U ae->aE ae s->bf ae c x a d->Out .z N b ae.length (ae++[.az (bp es g c)]) r)->Out .z (N+2) (.def_ g x e a b) d U r
abbrev Sx:Prop:=∀{U d N g x a b p q s s1 c es w},aE U s->0<=s.k->s.k+1+1<10^10->d≠st->U[d]?=some (.az es)->es.length<=aJ->1<=N->(∀ae,Kp st U ae->aE ae s.new.new->Out .o N a ae.length (ae++[.az (bp es x (.str (vn (s.k+1+1))))]) (.pc p,s1))->
  (∀ae,Kp st U ae->aE ae s1->Out .o N b ae.length (ae++[.az (bp es g (.str (vn (s.k+1))))]) (.pc q,c))->s1.le w c->Out .o (N+2) (.def_ g x "number" a b) d U (.pc (.def_ (vn (s.k+1)) (vn (s.k+1+1)) "number" p q),c)
end
structure qr(st:Nat)(aE:H->Sg->Prop)(bf:H->V->Str->Tm->Nat->Prop)(Out:Lv->Nat->Tm->Nat->H->Bv×Sg->Prop):Prop where
 app:∀{U τ s},aE U s->aE (U++τ) s
 ne:∀{U s},aE U s->U.length≠st
 xD:Qu st bf
 more:Si Out
 Bo:Sk aE Out
 Bp:Sl aE Out
 AS:Qv aE Out
 AU:Qw aE Out
 hole:Sm Out
 lift:Sn Out
 Ap:Ot aE Out
 bK:Qx aE Out
 run:Ub Out
 Bq:So st aE bf Out
 Br:Sp Out
 Bs:Sq st aE Out
 Bt:Sr st aE Out
 AV:Qy st aE Out
 AW:Qz st aE Out
 Bu:Ss st aE Out
 Bw:Su st aE Out
 Aq:Ou st aE Out
 Ar:Ov st aE Out
 Bx:Sw st aE bf Out
 By:Sx st aE Out
abbrev Wg:Lv->Nat
|.z=>58|.o=>61
section
variable{P:Prog}{sc:List Int}
abbrev UX(P:Prog)(sc:List Int)(st:Nat)(l:Lv)(N:Nat)(t:Tm)(d:Nat)(U:H)(r:Bv×Sg):Prop:=∀n,N<=n->∃a,av P sc n (Wg l) [t.ag,.ref d,.ref st] U=.ok r.1.v a/\Kp st U a/\a[st]?=some (eu r.2)
def gU(h:1<=n):∃k,n=k+1:=#[n-1,~~~cm (a7 iW rfl) (a7 tB rfl h)]
def uN(h:3<=n):∃k,n=k+3:=#[n-3,~~~cm (a7 iX rfl) (a7 0x3018c28cc201248049009049205323 rfl h)]
def lK(h:2<=n):∃k,n=k+2:=#[n-2,~~~cm (a7 rv rfl) (a7 0x30188288c201248049009049205322 rfl h)]
def Ow(B:nC P)(st:Nat):qr st (λU s=>U[st]?=some (eu s)) (λU v x b d=>∃J,J≠st/\v=.ref J/\U[J]?=some (.af [.str x,b.ag,.ref d])) (UX P sc st) where
 app h:=old h
 ne h:=λq=>by rw[←q] at h;simp at h
 xD:=λk #[J,l,o,R]=>#[J,l,o,k.get l R]
 more h hN n hn:=h n (bZ () ())
 Bo h n hn:=by obtain⟨k,rfl⟩:=gU hn;exact#[_,HV B _,.refl _,h]
 Bp h n hn:=by obtain⟨k,rfl⟩:=gU hn;exact#[_,T4 B _,.refl _,h]
 AS h hd I n hn:=by obtain⟨k,rfl⟩:=gU hn;exact#[_,GZ B hd I,.refl _,h]
 AU h hd I n hn:=by obtain⟨k,rfl⟩:=gU hn;exact#[_,Sd B hd I,.refl _,h]
 hole hN h n hn:=by
  obtain⟨k,rfl⟩:=gU (n:=n) (dz ());exact ct (h k (cE ())) λF e l o=>#[F,Sf B e,l,o]
 lift hN h n hn:=by
  obtain⟨k,rfl⟩:=gU (n:=n) (dz ());exact ct (h k (cE ())) λF e l o=>#[F,Sa B e,l,o]
 Ap h G n hn:=by obtain⟨k,rfl⟩:=gU hn;exact#[_,Oo B h G,.refl _,h]
 bK h G l _ hp n hn:=by
  obtain⟨k,rfl⟩:=lK (n:=n) (~~~bD 0xc88124124124814e06334530184e rfl hp hn);refine ct (l (k+1) (cE ())) λt u k1 i=>?_;obtain⟨K,e⟩:=Qt B h G u i (~~~bD 0xd30124124124814e06330506234184e rfl hp hn);exact#[_,e,(k1.trans .add).trans .set,gy (old i)]
 run {U d N a p i} l hP hd hf hN n hn:=by
  refine bB λXx L=>?_;obtain⟨k,rfl⟩:=lK (n:=n) (dz ());refine ct (l (k+1) (cE (bG ()))) λt u k1 o=>?_;obtain⟨K,ec⟩:=E4 (sc:=sc) B hP.cs k t.length [] (λ_=>0) (t++[O.az []]) (~~~bD 0x34c049049049049205f8c14ea879c506234188e rfl hd hN hn) bA (by show 0+p.depth<=aJ;have:aJ=1000000:=rfl;exact aM tG rfl hd this) (λg Q=>~~~bR Q);have I:=(GY (Oq (sc:=sc) B (st:=.ref st)) hP (~~~ff) (λ_=>0) ((t++[O.az []]++K).set st (eu #[i.k,i.fl,i.c+p.eO])++[O.az []]) (t++[O.az []]++K).length [] (λ_=>.no) trivial (by rw[←(List.length_set ..)];exact bA) (by show 0+p.depth<=aJ;have:aJ=1000000:=rfl;exact aM tG rfl hd this) (λx m hx=>~~~bR hx)).2;obtain⟨fB,T⟩:=I (k+1) (~~~bD Ei rfl hf hN hn);refine L ?_;have e:=Ua B (v:=.int (p.den λ_=>.no)) u o ec (λ_=>T);have hs:((t++[O.az []]++K).set st (eu #[i.k,i.fl,i.c+p.eO]))[st]?=some (eu #[i.k,i.fl,i.c+p.eO]):=gy (old (old o));have kp:Kp st U ((t++[O.az []]++K).set st (eu #[i.k,i.fl,i.c+p.eO])):=((k1.trans .add).trans .add).trans .set;unfold lG
  by_cases G:5000<i.c+p.eO
  ·rw[if_pos G] at e ⊢;exact#[_,e,kp,hs]
  ·rw[if_neg G] at e ⊢;exact#[_,e,(kp.trans .add).trans .add,old (old hs)]
 Bq bF hd Q G hd1 hd' hl hN l o _ n hn:=by
  refine bB λXx L=>?_;obtain⟨k,rfl⟩:=uN (n:=n) (~~~aM wx rfl hN hn);obtain⟨J,Wh,rfl,G⟩:=G;exact ct (l (k+1) (Nat.le_of_add_le_add_right ())) λt u k1 i=>ct (o t k1 i (k+1) (Nat.le_of_add_le_add_right ())) λC y z A=>L (#[C,H0 B hd Q u (k1.get Wh G) (k1.get hd1 hd') hl y,(k1.trans .add).trans z,A])
 Br hd Q hN h n hn:=by
  obtain⟨k,rfl⟩:=gU (n:=n) (dz ());exact ct (h k (cE ())) λF e l o=>#[F,T5 B hd Q e,l,o]
 Bs hN hi l o _ n hn:=by
  refine cb (gU (n:=n) (dz ())) λk D=>?_;subst D;refine ct (l k (cE (bG ()))) λt u k1 i=>ct (o t k1 i k (cE (bG ()))) λC y z A=>?_;obtain⟨K,e⟩:=HW B u y hi;exact#[_,e,(k1.trans z).trans .add,old A]
 Bt hN l o _ n hn:=by
  obtain⟨k,rfl⟩:=gU (n:=n) (dz ());exact ct (l k (cE ())) λt u k1 i=>ct (o t k1 i k (cE ())) λC y z A=>#[_,T8 B u y,(k1.trans z).trans .add,old A]
 AV hN l o _ n hn:=by
  refine cb (gU (n:=n) (dz ())) λk D=>?_;subst D;exact ct (l k (cE (bG ()))) λt u k1 i=>ct (o t k1 i k (cE (bG ()))) λC y z A=>#[_,G0 B u y,k1.trans z,A]
 AW hN l o _ R _ n hn:=by
  refine bB λXx L=>?_;obtain⟨k,rfl⟩:=gU (n:=n) (dz ());exact ct (l k (cE ())) λt u k1 i=>ct (o t k1 i k (cE ())) λC y z A=>ct (R C (k1.trans z) A k (cE ())) λb9 T k3 s3=>L (#[_,Sh B u y T,((k1.trans z).trans k3).trans .add,old s3])
 Bu bF hd hl hN l o _ n hn:=by
  refine cb (uN (n:=n) (aM wx rfl hN hn)) λk D=>?_;subst D;exact ct (l (k+1) (Nat.le_of_add_le_add_right ())) λt u k1 i=>ct (o t k1 i (k+1) (Nat.le_of_add_le_add_right ())) λC y z A=>#[C,HY B u (k1.get bF hd) hl y,(k1.trans .add).trans z,A]
 Bw h h0 hk bF hd hl hN l o _ n hn:=by
  obtain⟨k,rfl⟩:=lK (dz ());refine ct (l _ .set (gy h) (k+1) (cE (bG ()))) λt u k1 i=>?_;have k1:=Kp.set.trans k1;exact ct (o t k1 i (k+1) (cE (bG ()))) λC y z A=>#[C,T6 B (vF B h h0 hk) u (k1.get bF hd) hl y,(k1.trans .add).trans z,A]
 Aq h h0 hk bF hd hl hN l o _ n hn:=by
  refine cb (lK (dz ())) λk D=>?_;subst D;refine ct (l _ .set (gy h) (k+1) (cE (bG ()))) λt u k1 i=>?_;have k1:=Kp.set.trans k1;exact ct (o t k1 i (k+1) (cE (bG ()))) λC y z A=>#[C,Qs B (vF B h h0 hk) u (k1.get bF hd) hl y,(k1.trans .add).trans z,A]
 Ar {U d N m x a b r0 es f} hm bF hd hl hN l o _ n hn:=by
  refine cb (uN (aM wx rfl hN hn)) λk D=>?_;subst D;refine ct (l (k+1) (Nat.le_of_add_le_add_right ())) λt u k1 i=>?_
  obtain⟨v,C,y,I,z,A⟩:=Ge B #[hm.1,~~~bw tD rfl hm.2] u (λj v F=>v=(dm f j r0).1.v/\Kp st U F/\F[st]?=some (eu (dm f j r0).2)) #[rfl,k1,i] (λj v F hj hI=>by
   refine g8 (hI) λcM X sj=>?_;clear hI;subst cM;refine ct (o j F hj X sj (k+1) (Nat.le_of_add_le_add_right ())) λda e k' s'=>?_
   exact#[es,X.get bF hd,hl,_,da,e,rfl,(X.trans .add).trans k',s'])
  rw[I] at y;exact#[C,y,z,A]
 Bx {U d N g x kd a b s r es} h bF hd hl hN l n hn:=by
  obtain⟨k,rfl⟩:=uN (aM wx rfl hN hn);have Y:U.length≠st:=λq=>by rw[←q] at h;simp at h
  refine ct (l (U++[.af [.str x,a.ag,.ref d]]) (.ref U.length) .add (old h) #[_,Y,rfl,bA] (k+1) (Nat.le_of_add_le_add_right ())) λC y z A=>?_;rw[List.length_append,List.length_singleton] at y;exact#[C,HZ B hd hl y,(Kp.add.trans .add).trans z,A]
 By {U d N g x a b p q s i A es w} h h0 hk bF hd hl hN l o _ n hn:=by
  refine cb (lK (dz ())) λk D=>?_;subst D;have Z:s.k+1<10^10:=by(exact Int.le_of_lt ())
  have k0:Kp st U ((U.set st (eu s.new)).set st (eu s.new.new)):=Kp.set.trans .set;refine ct (l _ k0 (gy (gy h)) (k+1) (cE (bG ()))) λt u k1 s1'=>?_;have k1:=(k0.trans .add).trans k1;exact ct (o t k1 s1' (k+1) (cE (bG ()))) λC y z s2'=>#[C,T7 B (vF B h h0 Z) (vF B (gy h) (by show 0<=s.k+1;exact bw jH rfl h0) (hk)) (k0.get bF hd) hl u (k1.get bF hd) hl y,(k1.trans .add).trans z,s2']
end
abbrev K0:Int:=9000000000
section
variable{st:Nat}{aE:H->Sg->Prop}{bf:H->V->Str->Tm->Nat->Prop}{Out:Lv->Nat->Tm->Nat->H->Bv×Sg->Prop}
abbrev um(st:Nat)(aE:H->Sg->Prop)(bf:H->V->Str->Tm->Nat->Prop)(Out:Lv->Nat->Tm->Nat->H->Bv×Sg->Prop)(VF:Nat)(V:Int)(v:Sv)(o:Option Qh.V)(h:Dm)(U:H):Lv->Mn->Prop
|.z,.val _=>o=some v.b.v
|.o,_=>o=some (.str v.y)
|.z,.fn ka _=>∃g p body d a,o=some g/\bf U g p body d/\d≠st/\U[d]?=some (.az a)/\a.length<=aJ/\
   ∀e:Dm,h.le e->∀c s u,Kp st U c->aE c s->ie e ka u->0<=s.k->Below e s.k->s.k+V<=K0->Out .z VF body c.length (c++[.az (bp a p u.v)]) (v.f u s)
abbrev qC(st:Nat)(aE:H->Sg->Prop)(bf:H->V->Str->Tm->Nat->Prop)(Out:Lv->Nat->Tm->Nat->H->Bv×Sg->Prop)(VF:Nat)(V:Int)(a:Sc)(b:Str->Sv)(c:Dm)(U:H)(es:List (Str×Qh.V)):Prop:=
 ∀x e,look a x=some e->um st aE bf Out VF V (b x) (dn es x) c U e.l e.m
variable(K:qr st aE bf Out)
include K
def um.up{VF c:Nat}{V d:Int}{v:Sv}{o:Option Qh.V}{e f:Dm}{U g:H}{l:Lv}{m:Mn}(h:um st aE bf Out VF V v o e U l m)(k:Kp st U g)(q:e.le f)(j:VF<=c)(n:V<=d):um st aE bf Out c d v o f g l m:=by
 cases l with
|o=>exact h
|z=>cases m with
  |val _=>exact h
  |fn a r=>
   exact Hd (h) λt p body w b x y i A B C=>#[t,p,body,w,b,x,K.xD k y,i,k.get i A,B,λD F G s u I J L P Q R=>K.more (C D (q.trans F) G s u (k.trans I) J L P Q (kH wz rfl n R)) j]
def qC.up{VF a:Nat}{V b:Int}{c:Sc}{d:Str->Sv}{f g:Dm}{U i:H}{es:List (Str×Qh.V)}(h:qC st aE bf Out VF V c d f U es)(k:Kp st U i)(q:f.le g)(j:VF<=a)(l:V<=b):qC st aE bf Out a b c d g i es:=λx e m=>(h x e m).up K k q j l
omit K in
def qC.put{VF:Nat}{V:Int}{c:Sc}{d:Str->Sv}{b:Dm}{U:H}{es:List (Str×Qh.V)}(h:qC st aE bf Out VF V c d b U es){x:Str}{l:Lv}{m:Mn}{v:Sv}{val:Qh.V}(f:um st aE bf Out VF V v (some val) b U l m):qC st aE bf Out VF V (c++[#[x,l,m]]) (bM d x v) b U (bp es x val):=λy e a=>by
 rw[iD] at a;rw[n9];unfold bM;cases hx:(x==y) with
|true=>rw[hx,if_pos rfl] at a;(apply fg a);rw[if_pos rfl,if_pos rfl];exact f
|false=>rw[hx] at a;rw[if_neg (by simp),if_neg (by simp)];exact h y e a
end
def Uc{a b:Nat}(h:a<=b):max 500 a<=max 500 b:=Nat.max_le.mpr #[e9 _ _,bZ h (fL _ _)]
def Gg{f:Bool}{d VF a:Nat}(h:fa d+max 70 a+2<=fa (d+1)+max 70 VF):fb f d a+2<=fb f (d+1) VF:=by
 cases f with
|true=>exact bZ (Nat.add_le_add (Nat.add_le_add_left (Uc (bZ (eG _ 2) h)) (2*d)) (aU 2)) (Nat.le_of_eq (Nat.add_right_comm _ _ _))
|false=>exact h
def iU{f:Bool}{d VF:Nat}:fb f d VF+2<=fb f (d+1) VF:=Gg (by(refine(show fa (d+1)=14+2*fa d from rfl)▸?_);generalize max 70 VF=M;exact aM 0x134110c8ae06204d301248 rfl)
def H4{f:Bool}{d VF n:Nat}(h:n<=max 70 VF):n<=fb f d VF:=by
 have h:=bZ h (ee _ (fa d));cases f with
|true=>exact bZ h (bZ (fL 500 _) (ee _ _))
|false=>exact h
def H5{f:Bool}{d VF:Nat}:VF<=fb f d VF:=H4 (fL _ _)
def fG{f:Bool}{d VF:Nat}:70<=fb f d VF:=H4 (e9 _ _)
def H6{f:Bool}{d VF:Nat}:fb false d VF<=fb f d VF:=by
 cases f with
|true=>exact bZ (fL 500 _) (ee _ _)
|false=>exact aU _
def Sy{f:Bool}{d VF:Nat}:fb f d (max VF (fb false d VF))+2<=fb f (d+1) VF:=Gg (by
 have h:=Nat.max_le.mpr #[show 70<=fb false d VF from fG,Nat.max_le.mpr #[show VF<=fb false d VF from H5,aU _]];refine(show fa (d+1)=14+2*fa d from rfl)▸?_;have e:fb false d VF=fa d+max 70 VF:=rfl;rw[e] at h ⊢;generalize max 70 VF=M at h ⊢;generalize max 70 (max VF (fa d+M))=N at h ⊢
 exact bD 0x4e044322b8188134c04904920504e30d rfl h)
section
variable{st:Nat}{aE:H->Sg->Prop}{bf:H->V->Str->Tm->Nat->Prop}{Out:Lv->Nat->Tm->Nat->H->Bv×Sg->Prop}
abbrev cX(st:Nat)(aE:H->Sg->Prop)(bf:H->V->Str->Tm->Nat->Prop)(Out:Lv->Nat->Tm->Nat->H->Bv×Sg->Prop)(A VF:Nat)(V w:Int)(m:Nat)(f:Bool)(c:Sc)(l:Lv)(t:Tm):Prop:=
 ∀b a s U d es,(f=true->a=λ_=>none)->Se V c b a->0<=s.k->Below a s.k->s.k+w<=K0->aE U s->d≠st->U[d]?=some (.az es)->es.length+m<=aJ->qC st aE bf Out VF V c b a U es->Out l A t d U (sd t b l s)
variable(K:qr st aE bf Out)
include K
omit K in
def gk{r:Bv×Sg}{b:Bv}(h:r.1=b):r=(b,r.2):=Prod.ext h rfl
def Ud{A VF m:Nat}{V l p w:Int}{f:Bool}{g:Sc}{o:U2}{a b:Tm}{u D:Nat}(P:bI V l g u D .z a .aD)(Q:bI V p g u D .z b .aD)(R:cX st aE bf Out A VF V l m f g .z a)(hb:cX st aE bf Out A VF V p m f g .z b)(T:1<=A)(y:l+p<=w)(X:0<=l/\0<=p):
  cX st aE bf Out (A+2) VF V w m f g .z (.ak o a b):=λc q s U d B C S hk r F Y v G I D=>by
 obtain⟨⟨i,J,Z⟩,t⟩:=P c q s S hk r;have h:=di hk t.k;have:=t.w;obtain⟨⟨j,L,r2⟩,l2⟩:=Q c q (sd a c .z s).2 S h (r.up t.k);have x:=R c q s U d B C S hk r (qF tH rfl y X.2 F) Y v G I D;replace x:=(gk J)▸x;have e:sd (.ak o a b) c .z s=(.num (jV o i j),(sd b c .z (sd a c .z s).2).2):=by
  show(Bv.num (jV o (sd a c .z s).1.n (sd b c .z (sd a c .z s).2).1.n),_)=_
  (refine J▸?_;refine L▸?_);rfl
 refine e▸?_
 exact K.Bs T (D6 Z) x (λae k1 s1=>by
  have:=hb c q (sd a c .z s).2 ae d B C S h (r.up t.k) (jW rB rfl y F this) s1 v (k1.get v G) I (D.up K k1 (Dm.le.refl _) (aU _) (bk _));replace this:=(gk L)▸this
  exact this) l2
def H7{A VF m:Nat}{V w:Int}{f:Bool}{a:Sc}{i:Int}(b:1<=A):cX st aE bf Out A VF V w m f a .z (.num i):=λe g s U d h j S hk k l c n o p D=>K.more (K.Bo c) b
def AX{A VF m:Nat}{V w:Int}{f:Bool}{a:Sc}{i:Int}(b:1<=A):cX st aE bf Out A VF V w m f a .o (.num i):=λe g s U d h j S hk k l c n p q D=>K.more (K.Bp c) b
def G1{A VF m:Nat}{V w:Int}{f:Bool}{a:Sc}{x:Str}{k:Kd}(b:look a x=some #[x,.z,.val k])(c:1<=A):cX st aE bf Out A VF V w m f a .z (.name x):=λh i s U d j l S hk n o e p g q D=>K.more (K.AS e g (D x _ b)) c
def xi{A VF m:Nat}{V w:Int}{f:Bool}{a:Sc}{x:Str}{k:Kd}(b:look a x=some #[x,.o,.val k])(c:1<=A):cX st aE bf Out A VF V w m f a .o (.name x):=λh i s U d j l S hk n p e q g r D=>K.more (K.AU e g (D x _ b)) c
def xj{A VF m:Nat}{V w:Int}{f f':Bool}{b:Sc}{a:Tm}(c:f'=true->f=true)(e:cX st aE bf Out A VF V w m f' b .z a)(g:1<=A):cX st aE bf Out (A+1) VF V w m f b .o (.un .hole a):=λh i s U d j k S hk l n p r t u D=>K.hole g (e h i s U d j (λq=>k (c q)) S hk l n p r t u D)
def G2{A VF m:Nat}{V w:Int}{f:Bool}{c:Sc}{a:Tm}{u D':Nat}(l:bI V w c u D' .z a .aD)(o:cX st aE bf Out A VF V w m f c .z a)(p:1<=A):cX st aE bf Out (A+1) VF V w m f c .z (.un .lift a):=λb h s U d q r S hk j t v x y B D=>by
 obtain⟨⟨i,k,C⟩,F⟩:=l b h s S hk j;have g:=o b h s U d q r S hk j t v x y B D;replace g:=(gk k)▸g;have e:sd (.un .lift a) b .z s=(.pc (.num i),(sd a b .z s).2):=by show(Bv.pc (.num (sd a b .z s).1.n),_)=_;(refine k▸?_);rfl
 exact(e)▸K.lift p g
def p5{A VF m:Nat}{V w:Int}{f f':Bool}{h:Sc}{a:Tm}{k:Kd}{u D':Nat}(t:f'=true->f=true)(v:bI V w h u D' .o a k)(x:cX st aE bf Out A VF V w m f' h .o a)(y:D'+3<=A):cX st aE bf Out (A+1) VF V w m f h .z (.un .bK a):=λb l s U d B C S hk n F i G I J D=>by
 have e:sd (.un .bK a) b .z s=if 5000<s.c then(.pc (.num 0),s) else iP (sd a b .o s).1.p (sd a b .o s).2:=rfl
 refine e▸?_
 by_cases g:5000<s.c
 ·(refine(if_pos g)▸?_);exact K.more (K.Ap i g) (ee _ _)
 ·refine(if_neg g)▸?_;obtain⟨⟨p,r,Q,L,_⟩,P⟩:=v b l s S hk n;have j:=x b l s U d B (λq=>C (t q)) S hk n F i G I J D;replace j:=(gk r)▸j;refine r▸?_;show Out .z (A+1) (.un .bK a) d U (iP p (sd a b .o s).2);exact K.bK i g j P.c (bD 0xd06330124124124814d06338538c rfl y L)
def Ue{A VF m:Nat}{V w:Int}{c:Sc}{a:Tm}{D':Nat}(l:bI V w c 0 D' .z a .ba)(n:cX st aE bf Out A VF V w m true c .z a)(o:490<=A):cX st aE bf Out (A+2) VF V w m true c .z (.un .run a):=λb g s U d q h S hk i r t u v x D=>by
 refine aX (l b g s S hk i) λy F=>qe (y.ok) λp j B G k C=>?_;have f:=n b g s U d q h S hk i r t u v x D;replace f:=(gk j)▸f;have e:sd (.un .run a) b .z s=lG p (sd a b .z s).2:=by show lG (sd a b .z s).1.p _=_;(refine j▸?_);rfl
 refine e▸?_;have:=C λ_=>0;exact K.run f (by have:=h rfl;(refine this▸?_);exact B) k (aM 0x301e330124124824817e34510da0c rfl k this) o
def Sz{A VF m:Nat}{V t l w:Int}{f:Bool}{j:Sc}{a b c:Tm}{k:Kd}{u D' u' J:Nat}(T:bI V t j u D' .z a .aD)(X:bI V l j u' J .z b k)(Y:bI V l j u' J .z c k)(Z:cX st aE bf Out A VF V t m f j .z a)(hb:cX st aE bf Out A VF V l m f j .z b)(hc:cX st aE bf Out A VF V l m f j .z c)(hA:1<=A)(v:t+l<=w)(h0:0<=t/\0<=l):
  cX st aE bf Out (A+2) VF V w m f j .z (.when a b c):=λg o s U d x y S hk p B hs r C F D=>by
 obtain⟨⟨i,L,r1⟩,q⟩:=T g o s S hk p;have h:=di hk q.k;have:=q.w;have G:=Z g o s U d x y S hk p (qF tH rfl v h0.2 B) hs r C F D;replace G:=(gk L)▸G;have e:sd (.when a b c) g .z s=sd (if i=0 then c else b) g .z (sd a g .z s).2:=by
  show(if(sd a g .z s).1.n=0 then sd c g .z else sd b g .z) _=_;refine L▸?_;show(if i=0 then sd c g .z else sd b g .z) _=_
  split<;>rfl
 refine e▸?_;have I:∃w,(sd a g .z s).2.le w (sd (if i=0 then c else b) g .z (sd a g .z s).2).2:=by
  split
  ·exact#[_,(Y g o _ S h (p.up q.k)).2]
  ·exact#[_,(X g o _ S h (p.up q.k)).2]
 refine cb (I) λw' I=>?_
 exact K.AV hA G (λP k1 Q=>by
  have R:=D.up K k1 (Dm.le.refl _) (aU _) (bk _)
  split
  ·exact hc g o _ P d x y S h (p.up q.k) (jW rB rfl v B this) Q r (k1.get r C) F R
  ·exact hb g o _ P d x y S h (p.up q.k) (jW rB rfl v B this) Q r (k1.get r C) F R) I
def H8{A VF m:Nat}{V i j w:Int}{f:Bool}{g:Sc}{o:U2}{a b:Tm}{k:Kd}{u D':Nat}(J:bI V i g u D' .o a k)(L:bI V j g u D' .o b k)(P:cX st aE bf Out A VF V i m f g .o a)(hb:cX st aE bf Out A VF V j m f g .o b)(Q:1<=A)(x:i+j<=w)(R:0<=i/\0<=j):
  cX st aE bf Out (A+1) VF V w m f g .o (.ak o a b):=λc l s U d y z S hk n B T t C F D=>by
 refine bB λXx X=>?_;obtain⟨⟨p,G,_⟩,r⟩:=J c l s S hk n;have h:=di hk r.k;have:=r.w;obtain⟨⟨q,I,_⟩,Y⟩:=L c l (sd a c .o s).2 S h (n.up r.k);refine X ?_;have v:=P c l s U d y z S hk n (qF tH rfl x R.2 B) T t C F D;replace v:=(gk G)▸v;have e:sd (.ak o a b) c .o s=(.pc (.ak o p q),(sd b c .o (sd a c .o s).2).2):=by
  show(Bv.pc (.ak o (sd a c .o s).1.p (sd b c .o (sd a c .o s).2).1.p),_)=_
  (refine G▸?_;refine I▸?_);rfl
 refine e▸?_
 exact K.Bt Q v (λZ k1 s1=>by
  have:=hb c l (sd a c .o s).2 Z d y z S h (n.up r.k) (jW rB rfl x B this) s1 t (k1.get t C) F (D.up K k1 (Dm.le.refl _) (aU _) (bk _));replace this:=(gk I)▸this
  exact this) Y
def SA{A VF m:Nat}{V y z B w:Int}{f:Bool}{h:Sc}{a b c:Tm}{k k':Kd}{u D':Nat}(ga:bI V y h u D' .o a k)(gb:bI V z h u D' .o b k')(gc:bI V B h u D' .o c k')(ha:cX st aE bf Out A VF V y m f h .o a)(hb:cX st aE bf Out A VF V z m f h .o b)(hc:cX st aE bf Out A VF V B m f h .o c)(hA:1<=A)(F:y+z+B<=w)(G:0<=y/\0<=z/\0<=B):
  cX st aE bf Out (A+1) VF V w m f h .o (.when a b c):=λg j s U d I J S hk l L hs n P Q D=>by
 refine bB λXx aH=>?_;obtain⟨⟨p,Y,_⟩,r⟩:=ga g j s S hk l;have i:=di hk r.k;have Z:=r.w;obtain⟨⟨q,e2,_⟩,C⟩:=gb g j (sd a g .o s).2 S i (l.up r.k);have v:=di i C.k;have y2:=C.w;have x:=(l.up r.k).up C.k;obtain⟨⟨t,e3,_⟩,l3⟩:=gc g j (sd b g .o (sd a g .o s).2).2 S v x;refine aH ?_;have R:=ha g j s U d I J S hk l (jW 0xe04d30124124124124124815105004f3453e015080538144c rfl F G.2.1 G.2.2 L) hs n P Q D;replace R:=(gk Y)▸R;have e:sd (.when a b c) g .o s=(.pc (.when p q t),(sd c g .o (sd b g .o (sd a g .o s).2).2).2):=by
  show(Bv.pc (.when (sd a g .o s).1.p (sd b g .o (sd a g .o s).2).1.p (sd c g .o (sd b g .o (sd a g .o s).2).2).1.p),_)=_
  (refine Y▸?_;refine e2▸?_;refine e3▸?_);rfl
 refine e▸?_
 exact K.AW hA R (λT k1 X=>by
  have:=hb g j (sd a g .o s).2 T d I J S i (l.up r.k) (oZ 0xe04d30124124124124124815105004d3c542014e05148504f48c rfl F G.2.2 L Z) X n (k1.get n P) Q (D.up K k1 (Dm.le.refl _) (aU _) (bk _));replace this:=(gk e2)▸this
  exact this) C (λT k1 X=>by
  have:=hc g j _ T d I J S v x (U3 0xe04d30124124124124124815104d0503c53814521413d24c50504cc rfl F L Z y2) X n (k1.get n P) Q (D.up K k1 (Dm.le.refl _) (aU _) (bk _));replace this:=(gk e3)▸this
  exact this) l3
def Ug{A VF m:Nat}{V w:Int}{f:Bool}{c:Sc}{g:Str}{a:Tm}{ka k k':Kd}{u D':Nat}(q:look c g=some #[g,.o,.fn ka k])(r:bI V w c u D' .o a k')(t:cX st aE bf Out A VF V w m f c .o a)(v:1<=A):cX st aE bf Out (A+1) VF V w m f c .o (.use g a):=λb i s U d x z S hk j B C F l G D=>by
 obtain⟨⟨p,n,_⟩,I⟩:=r b i s S hk j;have h:=t b i s U d x z S hk j B C F l G D;replace h:=(gk n)▸h;have e:sd (.use g a) b .o s=(.pc (.use (b g).y p),(sd a b .o s).2):=by show(Bv.pc (.use (b g).y (sd a b .o s).1.p),_)=_;(refine n▸?_);rfl
 exact(e)▸K.Br l (D g _ q) v h
def AY{A VF m:Nat}{V i j w:Int}{f:Bool}{c:Sc}{x:Str}{a b:Tm}{k k':Kd}{u D' G:Nat}(I:bI V i c 0 D' .z a k)(J:bI V j (c++[#[x,.z,.val k]]) u G .z b k')(L:cX st aE bf Out A VF V i (m+1) f c .z a)(hb:cX st aE bf Out A VF V j m f (c++[#[x,.z,.val k]]) .z b)(P:1<=A)(o:i+j<=w)(Q:0<=i/\0<=j):
  cX st aE bf Out (A+2) VF V w (m+1) f c .z (.aY x a b):=λe g s U d p q S hk l r R t y B D=>by
 refine aX (I e g s S hk l) λT n=>?_;have h:=di hk n.k;have:=n.w;have C:Se V (c++[#[x,.z,.val k]]) (bM e x (.val (sd a e .z s).1)) g:=S.put #[_,rfl,T.ok]
 exact K.Bu t y (iQ ()) P (L e g s U d p q S hk l (qF tH rfl o Q.2 r) R t y B D) (λX k1 F=>by
  exact hb _ g _ _ X.length _ q C h (l.up n.k) (jW rB rfl o r this) (K.app F) (K.ne F) bA (by have:=gX p x (sd a e .z s).1.v;exact ej oj rfl B this) ((D.up K (k1.trans .add) (Dm.le.refl _) (aU _) (bk _)).put rfl)) ((J _ g (sd a e .z s).2 C h (l.up n.k)).2)
def xF{A VF m:Nat}{V i j w:Int}{h:Sc}{x:Str}{a b:Tm}{ka k k':Kd}{u D':Nat}(Y:bI V i h u D' .o a ka)(Z:bI V j (h++[#[x,.o,.val k]]) u D' .o b k')(ha:cX st aE bf Out A VF V i (m+1) false h .o a)(hb:cX st aE bf Out A VF V j m false (h++[#[x,.o,.val k]]) .o b)(hA:1<=A)(t:1+i+j<=w)(B:0<=i/\0<=j){f:Bool}:
  cX st aE bf Out (A+2) VF V w (m+1) f h .o (Tm.aY x a b):=λc l s U d n hf S hk r y hs z C F D=>by
 have uZ:K0=9000000000:=rfl;have g:s.new.k=s.k+1:=rfl;have fresh:=r.none hk (bk _);have le:=Dm.le.new .v fresh;obtain⟨⟨p,G,_⟩,I⟩:=Y c l s.new S (cS tE rfl hk g) (r.up (cS rA rfl g));have lk:=I.k;have J:=I.w;have L:Se V (h++[#[x,.o,.val k]]) (bM c x (.nm (vn (s.k+1)))) (cV l (vn (s.k+1)) .v):=(S.up le (bk _)).put #[_,rfl,kQ];have P:Below (cV l (vn (s.k+1)) .v) (sd a c .o s.new).2.k:=(r.up (Int.le_of_lt ())).put #[~~~bw mw rfl hk,by assumption] _;obtain⟨⟨q,Q,_⟩,l2⟩:=Z _ _ (sd a c .o s.new).2 L (cD tF rfl hk g lk) P;have e:sd (Tm.aY x a b) c .o s=(.pc (Tm.aY (vn (s.k+1)) p q),(sd b (bM c x (.nm (vn (s.k+1)))) .o (sd a c .o s.new).2).2):=by
  show(Bv.pc (.aY (vn (s.k+1)) (sd a c .o s.new).1.p (sd b (bM c x (.nm (vn (s.k+1)))) .o (sd a c .o s.new).2).1.p),_)=_
  (refine G▸?_;refine Q▸?_);rfl
 refine e▸?_
 exact K.Bw hs hk (oZ Ej rfl t B.2 y uZ lk J) z C (iQ ()) hA (λcB R s0=>by
  have:=ha c l s.new cB d n (~~~ff) S (cS tE rfl hk g) (r.up (cS rA rfl g)) (jW Ek rfl t B.2 y g) s0 z (R.get z C) F (D.up K R (Dm.le.refl _) (aU _) (bk _));replace this:=(gk G)▸this
  exact this) (λT k1 X=>by
  have:=hb _ _ (sd a c .o s.new).2 (T++[.az (bp n x (.str (vn (s.k+1))))]) T.length (bp n x (.str (vn (s.k+1)))) (~~~ff) L (cD tF rfl hk g lk) P (oZ El rfl t y g J) (K.app X) (K.ne X) bA (by have:=gX n x (.str (vn (s.k+1)));exact ej oj rfl F this) ((D.up K (k1.trans .add) le (aU _) (bk _)).put rfl);replace this:=(gk Q)▸this
  exact this) l2
def QA{A VF m:Nat}{V i j w:Int}{h:Sc}{x:Str}{a b:Tm}{ka k k':Kd}{u D':Nat}{n:Int}(Z:bI V i h u D' .o a ka)(gb:bI V j (h++[#[x,.o,.val k]]) u D' .o b k')(ha:cX st aE bf Out A VF V i (m+1) false h .o a)(hb:cX st aE bf Out A VF V j m false (h++[#[x,.o,.val k]]) .o b)(hA:1<=A)(y:1+i+j<=w)(C:0<=i/\0<=j){f:Bool}:
  cX st aE bf Out (A+2) VF V w (m+1) f h .o (Tm.bg n x a b):=λc l s U d r hf S hk t z hs B F G D=>by
 have uZ:K0=9000000000:=rfl;have g:s.new.k=s.k+1:=rfl;have le:=Dm.le.new .v (t.none hk (bk _));obtain⟨⟨p,I,_⟩,J⟩:=Z c l s.new S (cS tE rfl hk g) (t.up (cS rA rfl g));have lk:=J.k;have L:=J.w;have P:Se V (h++[#[x,.o,.val k]]) (bM c x (.nm (vn (s.k+1)))) (cV l (vn (s.k+1)) .v):=(S.up le (bk _)).put #[_,rfl,kQ];have Q:Below (cV l (vn (s.k+1)) .v) (sd a c .o s.new).2.k:=(t.up (Int.le_of_lt ())).put #[~~~bw mw rfl hk,by assumption] _;obtain⟨⟨q,R,_⟩,l2⟩:=gb _ _ (sd a c .o s.new).2 P (cD tF rfl hk g lk) Q;have e:sd (Tm.bg n x a b) c .o s=(.pc (Tm.bg n (vn (s.k+1)) p q),(sd b (bM c x (.nm (vn (s.k+1)))) .o (sd a c .o s.new).2).2):=by
  show(Bv.pc (.bg n (vn (s.k+1)) (sd a c .o s.new).1.p (sd b (bM c x (.nm (vn (s.k+1)))) .o (sd a c .o s.new).2).1.p),_)=_
  (refine I▸?_;refine R▸?_);rfl
 refine e▸?_
 exact K.Aq hs hk (oZ Ej rfl y C.2 z uZ lk L) B F (iQ ()) hA (λcB T s0=>by
  have:=ha c l s.new cB d r (~~~ff) S (cS tE rfl hk g) (t.up (cS rA rfl g)) (jW Ek rfl y C.2 z g) s0 B (T.get B F) G (D.up K T (Dm.le.refl _) (aU _) (bk _));replace this:=(gk I)▸this
  exact this) (λX k1 Y=>by
  have:=hb _ _ (sd a c .o s.new).2 (X++[.az (bp r x (.str (vn (s.k+1))))]) X.length (bp r x (.str (vn (s.k+1)))) (~~~ff) P (cD tF rfl hk g lk) Q (oZ El rfl y z g L) (K.app Y) (K.ne Y) bA (by have:=gX r x (.str (vn (s.k+1)));exact ej oj rfl G this) ((D.up K (k1.trans .add) le (aU _) (bk _)).put rfl);replace this:=(gk R)▸this
  exact this) l2
def Uh{A VF m:Nat}{V h w:Int}{f:Bool}{i:Sc}{g:Str}{a:Tm}{ka k:Kd}{D':Nat}(o:look i g=some #[g,.z,.fn ka k])(y:bI V h i 0 D' .z a ka)(B:cX st aE bf Out A VF V h m f i .z a)(C:1<=A)(G:VF<=A)(p:h+V<=w)(I:0<=h/\0<=V):cX st aE bf Out (A+2) VF V w m f i .z (.use g a):=λb j s U d J L S hk l q P r t Q D=>by
 refine aX (y b j s S hk l) λv n=>?_;have c:=di hk n.k;have:=n.w;refine Hd (D g _ o) λcv x body d' R T X Y Z h5 h6=>aQ (S g _ o) λF eF Wi=>?_;have l2:=(Wi j (Dm.le.refl _) _ (sd a b .z s).2 v.ok c (l.up n.k)).2;have e:sd (.use g a) b .z s=(b g).f (sd a b .z s).1 (sd a b .z s).2:=rfl;refine e▸K.Bq (u:=(sd a b .z s).1) (s1:=(sd a b .z s).2) r t T X Y Z h5 C (B b j s U d J L S hk l (~~~qF tH rfl p I.2 q) P r t Q D) (λae k1 s1=>K.more (h6 j (Dm.le.refl _) ae _ _ k1 s1 v.ok c (l.up n.k) (~~~jW rB rfl p q this)) G) (w:=V) ?_
 (refine eF▸?_);exact l2
def QB{A VF m:Nat}{V i g w:Int}{f:Bool}{l:Sc}{x:Str}{n:Int}{a b:Tm}{k:Kd}{D' Y:Nat}(u:0<=n/\n<=9)(Z:bI V i l 0 D' .z a k)(B:bI V g (l++[#[x,.z,.val k]]) 0 Y .z b k)(ha:cX st aE bf Out A VF V i (m+1) f l .z a)(hb:cX st aE bf Out A VF V g m f (l++[#[x,.z,.val k]]) .z b)(hA:1<=A)(C:i+9*g<=w)(F:0<=i/\0<=g):
  cX st aE bf Out (A+2) VF V w (m+1) f l .z (.bg n x a b):=λc h s U d t G S hk p I hs J L P D=>by
 refine aX (Z c h s S hk p) λg1 l1=>?_;have y:∀r:Bv×Sg,ie h k r.1->Se V (l++[#[x,.z,.val k]]) (bM c x (.val r.1)) h:=λr hr=>S.put #[_,rfl,hr];have Q:∀j:Nat,j<=9->ie h k (dm (λv=>sd b (bM c x (.val v)) .z) j (sd a c .z s)).1/\s.le (i+j*g) (dm (λv=>sd b (bM c x (.val v)) .z) j (sd a c .z s)).2:=by
  intro j
  induction j with
  |zero=>exact λ_=>#[g1.ok,l1.up (by simp)]
  |succ j ih=>
   intro o;refine aX (ih (bG ())) λq e=>?_;rw[vx];refine aX (B _ h _ (y _ q) (di hk e.k) (p.up e.k)) λg2 l2=>#[g2.ok,e.trans l2 ?_];rw[show((j+1:Nat):Int)=j+1 by rfl,Int.add_mul,Int.one_mul];exact cD 0x104e34c04e04d301248 rfl
 have eS:∀j:Nat,j<9->i+j*g+g<=w:=λj o=>by
  have:(j:Int)*g<=8*g:=Int.mul_le_mul_of_nonneg_right (bw 0xa0c049049205a4184c rfl (Int.ofNat_lt.mpr o)) F.2;exact kH 0xf04e04d30124124124814f0443a930510ea0d rfl C this
 exact K.Ar u J L (iQ ()) hA (ha c h s U d t G S hk p (qF 0x38134c04904924904920540110fa4d14f80538140c rfl C F.2 I) hs J L P D) (λj R o k1 T=>by
  have X:=Nat.lt_of_lt_of_le o (Int.toNat_le.mpr u.2);refine aX (Q j (Nat.le_of_lt X)) λq e=>?_;have y1:=e.w;have y2:=eS j X;rw[vx]
  exact hb _ h _ (R++[.az (bp t x (dm (λv=>sd b (bM c x (.val v)) .z) j (sd a c .z s)).1.v)]) R.length (bp t x (dm (λv=>sd b (bM c x (.val v)) .z) j (sd a c .z s)).1.v) G (y _ q) (di hk e.k) (p.up e.k) (oZ 0x38134c04904904904920538140f14105244f305401341491 rfl I y1 y2) (K.app T) (K.ne T) bA (by have:=gX t x (dm (λv=>sd b (bM c x (.val v)) .z) j (sd a c .z s)).1.v;exact ej oj rfl P this) ((D.up K (k1.trans .add) (Dm.le.refl _) (aU _) (bk _)).put rfl))
  λj o=>by
   obtain⟨q,e⟩:=Q j (Nat.le_of_lt (Nat.lt_of_lt_of_le o (Int.toNat_le.mpr u.2)));rw[vx];exact#[_,(B _ h _ (y _ q) (di hk e.k) (p.up e.k)).2]
def Ui{A B VF o m:Nat}{V h i w:Int}{f:Bool}{e:Sc}{g x Q:Str}{a b:Tm}{ka k k':Kd}{D':Nat}(R:bI V i (e++[#[x,.z,.val ka]]) 0 D' .z a k)(T:cX st aE bf Out B VF V i m false (e++[#[x,.z,.val ka]]) .z a)(hb:cX st aE bf Out A o h w m f (e++[#[g,.z,.fn ka k]]) .z b)(X:1<=A)(Y:VF<=o)(Z:B<=o)(C:V<=h)(F:i<=h)(h0:0<=i):
  cX st aE bf Out (A+2) VF V w (m+1) f e .z (.def_ g x Q a b):=λj p s U d c hf S hk hB hK hs r G I D=>by
 have S':Se h (e++[#[g,.z,.fn ka k]]) (bM j g (.fn λv=>sd a (bM j x (.val v)) .z)) p:=(S.up (Dm.le.refl p) C).put #[_,rfl,λt q v s' hv y qR=>by
  refine aX (R (bM j x (.val v)) t s' ((S.up q (bk _)).put #[_,rfl,hv]) y qR) λl l1=>?_
  exact#[l.ok,l1.up F]]
 refine K.Bx hs r G (iQ ()) X λJ n k1 L hc=>hb _ p s (J++[.az (bp c g n)]) J.length (bp c g n) hf S' hk hB hK (K.app L) (K.ne L) bA (by have:=gX c g n;exact ej oj rfl I this) ((D.up K (k1.trans .add) (Dm.le.refl _) Y C).put ?_);refine#[n,x,a,d,c,rfl,K.xD .add hc,r,old (k1.get r G),by(exact iQ ()),λt q P s' u k' l g2 g3 g4 g5=>?_];exact K.more (T (bM j x (.val u)) t s' (P++[.az (bp c x u.v)]) P.length (bp c x u.v) (λz=>~~~ff z) ((S.up q (bk _)).put #[_,rfl,g2]) g3 g4 (kH wz rfl F g5) (K.app l) (K.ne l) bA (by have:=gX c x u.v;exact ej oj rfl I this) ((D.up K (((k1.trans .add).trans k').trans .add) q (aU _) (bk _)).put rfl)) Z
def Uj{A VF m:Nat}{V t y w:Int}{i:Sc}{g x:Str}{a b:Tm}{ka k k' l:Kd}{u u' D':Nat}(ga:bI V t (i++[#[x,.o,.val ka]]) u D' .o a l)(gb:bI V y (i++[#[g,.o,.fn ka k]]) u' D' .o b k')(ha:cX st aE bf Out A VF V t m false (i++[#[x,.o,.val ka]]) .o a)(hb:cX st aE bf Out A VF V y m false (i++[#[g,.o,.fn ka k]]) .o b)(hA:1<=A)(F:2+t+y<=w)(I:0<=t/\0<=y){f:Bool}:
  cX st aE bf Out (A+2) VF V w (m+1) f i .o (.def_ g x "number" a b):=λc B s U d j hf S hk C G hs bF hd J D=>by
 have uZ:K0=9000000000:=rfl;have h:s.new.new.k=s.k+1+1:=rfl;have f1:=C.none hk (bk _);have f2:=C.none hk (bw we rfl);have L:Se V (i++[#[x,.o,.val ka]]) (bM c x (.nm (vn (s.k+1+1)))) (cV B (vn (s.k+1+1)) .v):=(S.up (Dm.le.new .v f2) (bk _)).put #[_,rfl,kQ];have P:Below (cV B (vn (s.k+1+1)) .v) s.new.new.k:=(C.up (cS wh rfl h)).put #[~~~bw wi rfl hk,by(exact bk _)] _;refine bB λXx aH=>?_;obtain⟨⟨p,Q,_⟩,R⟩:=ga _ _ s.new.new L (cS wg rfl hk h) P;have lk:=R.k;have T:=R.w;have X:Se V (i++[#[g,.o,.fn ka k]]) (bM c g (.nm (vn (s.k+1)))) (cV B (vn (s.k+1)) .f):=(S.up (Dm.le.new .f f1) (bk _)).put #[_,rfl,kQ];have Y:Below (cV B (vn (s.k+1)) .f) (sd a (bM c x (.nm (vn (s.k+1+1)))) .o s.new.new).2.k:=(C.up (cD zv rfl h lk)).put #[~~~bw mw rfl hk,by(exact Int.le_of_lt ())] _;obtain⟨⟨q,Z,_⟩,l2⟩:=gb _ _ (sd a (bM c x (.nm (vn (s.k+1+1)))) .o s.new.new).2 X (cD zu rfl hk h lk) Y;refine aH ?_;have e:sd (.def_ g x "number" a b) c .o s=(.pc (.def_ (vn (s.k+1)) (vn (s.k+1+1)) "number" p q),(sd b (bM c g (.nm (vn (s.k+1)))) .o (sd a (bM c x (.nm (vn (s.k+1+1)))) .o s.new.new).2).2):=by
  show(Bv.pc (.def_ (vn (s.k+1)) (vn (s.k+1+1)) "number" (sd a (bM c x (.nm (vn (s.k+1+1)))) .o s.new.new).1.p (sd b (bM c g (.nm (vn (s.k+1)))) .o (sd a (bM c x (.nm (vn (s.k+1+1)))) .o s.new.new).2).1.p),_)=_
  (refine Q▸?_;refine Z▸?_);rfl
 refine e▸?_
 exact K.By hs hk (oZ 0x1d01fe1c21d41e906106106130124124124024124124124124814f04e04d8853a015004f306007a07447707607a1015244504d452 rfl F I.2 G uZ lk T) bF hd (iQ ()) hA (λn k1 r=>by
  have:=ha _ _ s.new.new (n++[.az (bp j x (.str (vn (s.k+1+1))))]) n.length (bp j x (.str (vn (s.k+1+1)))) (λz=>~~~ff z) L (cS wg rfl hk h) P (jW 0xe04d30124024124124124124815004f04d8853e014e05044606106144c rfl F I.2 G h) (K.app r) (K.ne r) bA (by have:=gX j x (.str (vn (s.k+1+1)));exact ej oj rfl J this) ((D.up K (k1.trans .add) (Dm.le.new .v f2) (aU _) (bk _)).put rfl);replace this:=(gk Q)▸this
  exact this) (λn k1 r=>by
  have:=hb _ _ (sd a (bM c x (.nm (vn (s.k+1+1)))) .o s.new.new).2 (n++[.az (bp j g (.str (vn (s.k+1))))]) n.length (bp j g (.str (vn (s.k+1)))) (λz=>~~~ff z) X (cD zu rfl hk h lk) Y (oZ 0xe04d30124124024124124124815004d04f88538141118184185148504f48c rfl F G h T) (K.app r) (K.ne r) bA (by have:=gX j g (.str (vn (s.k+1)));exact ej oj rfl J this) ((D.up K (k1.trans .add) (Dm.le.new .f f1) (aU _) (bk _)).put rfl);replace this:=(gk Z)▸this
  exact this) l2
end
section
variable{st:Nat}{aE:H->Sg->Prop}{bf:H->V->Str->Tm->Nat->Prop}{Out:Lv->Nat->Tm->Nat->H->Bv×Sg->Prop}
variable(K:qr st aE bf Out)
include K
def cX.up{A a VF m m':Nat}{V w b:Int}{f:Bool}{c:Sc}{l:Lv}{t:Tm}(h:cX st aE bf Out A VF V w m f c l t)(e:A<=a)(g:w<=b)(i:m<=m'):cX st aE bf Out a VF V b m' f c l t:=
 λj k s U d n o S hk p q r u v x D=>K.more (h j k s U d n o S hk p (kH wz rfl g q) r u v (ej wz rfl i x) D) e
def stage{d:Nat}{C:Sc}{l:Lv}{f:Bool}{t:Tm}{k:Kd}(h:HG d C l f t k):∀b V VF,0<=V->(l=.o->f=false)->(b=false->iz C)->d<=cap l b->cX st aE bf Out (fb f d VF) VF V (W d V) (8*d+8) f C l t:=by
 induction h with
|@num d C l f i=>intro b V VF m B s r;have:=fG (f:=f) (d:=d) (VF:=VF);(clear r B;cases l);exact H7 K (dz ());exact AX K (dz ())
|@name d C l f x k hx=>intro b V VF m B s r;have:=fG (f:=f) (d:=d) (VF:=VF);(clear r B;cases l);exact G1 K hx (dz ());exact xi K hx (dz ())
|@kB d C f x hx=>intro b V VF m B s r;have:=fG (f:=f) (d:=d) (VF:=VF);exact(xj K (f':=false) (A:=1) (~~~ff) (G1 K hx (aU _)) (aU _)).up K (dz ()) (bk _) (aU _)
|@la d C f x hx=>intro b V VF m B s r;have:=fG (f:=f) (d:=d) (VF:=VF);exact(p5 K (f':=false) (A:=4) (D':=1) (u:=0) (k:=.aD) (~~~ff) ((pZ hx (aU _)).up (aU _) (aU _) (dJ d m)) (xi K hx (ee _ _)) (aU _)).up K (dz ()) (bk _) (aU _)
|@lb d C f i=>intro b V VF m B s r;have:=fG (f:=f) (d:=d) (VF:=VF);exact(p5 K (f':=false) (A:=4) (D':=1) (u:=0) (k:=.aD) (~~~ff) ((tV (aU _)).up (aU _) (aU _) (dJ d m)) (AX K (ee _ _)) (aU _)).up K (dz ()) (bk _) (aU _)
|@lp d C f i=>intro b V VF m B s r;have:=fG (f:=f) (d:=d) (VF:=VF);exact(G2 K (A:=1) (u:=0) (D':=0) (Am.up (aU _) (aU _) (dJ d m)) (H7 K (aU _)) (aU _)).up K (dz ()) (bk _) (aU _)
|@ak d C l f w a b' G hb F L=>
  intro b V VF m B s r;have T:=fG (f:=f) (d:=d) (VF:=VF);have v:=iU (f:=f) (d:=d) (VF:=VF);have I:=(eQ (d:=d) m).1;have p:=dJ d m;have J:=good G b V m s (bG ());have Q:=good hb b V m s (bG ());have P:=F b V VF m B s (bG ());have R:=L b V VF m B s (bG ());clear r B L F hb G;cases l with
  |z=>exact(Ud K (u:=ub .z b d) (D:=30+d) J Q P R (dz ()) (bk _) #[p,p]).up K v (~~~cD oi rfl m I p) (eG _ _)
  |o=>exact(H8 K J Q P R (dz ()) (bk _) #[p,p]).up K (bG ()) (~~~cD oi rfl m I p) (eG _ _)
|@when d C l f a b' c k G hb iv F L gC=>
  intro b V VF m B s r;have T:=fG (f:=f) (d:=d) (VF:=VF);have v:=iU (f:=f) (d:=d) (VF:=VF);have I:=(eQ (d:=d) m).1;have p:=dJ d m;have J:=good G b V m s (bG ());have Q:=good hb b V m s (bG ());have g3:=good iv b V m s (bG ());have P:=F b V VF m B s (bG ());have R:=L b V VF m B s (bG ());have i3:=gC b V VF m B s (bG ());clear r B gC L F iv hb G;cases l with
  |z=>exact(Sz K J Q g3 P R i3 (dz ()) (bk _) #[p,p]).up K v (~~~cD oi rfl m I p) (eG _ _)
  |o=>exact(SA K J Q g3 P R i3 (dz ()) (bk _) #[p,p,p]).up K (bG ()) (~~~cD Fz rfl m I p) (eG _ _)
|@use d C l f g a ka k hg G F=>
  intro b V VF m B s r;have T:=fG (f:=f) (d:=d) (VF:=VF);have v:=iU (f:=f) (d:=d) (VF:=VF);have I:=(eQ (d:=d) m).1;have p:=dJ d m;have J:=good G b V m s (bG ());have P:=F b V VF m B s (bG ());clear B F G;cases l with
  |z=>rw[nM r] at J;exact(Uh K hg J P (dz ()) H5 (bk _) #[p,m]).up K v (~~~cD FA rfl I p) (eG _ _)
  |o=>exact(Ug K hg J P (dz ())).up K (bG ()) (~~~cD mi rfl m I p) (eG _ _)
|@aY d C l f x a b' k k' G hb F L=>
  intro b V VF m B s r;have T:=fG (f:=f) (d:=d) (VF:=VF);have v:=iU (f:=f) (d:=d) (VF:=VF);have I:=(eQ (d:=d) m).1;have p:=dJ d m;have U:b=false->iz (C++[#[x,l,.val k]]):=λq=>(s q).val _ _ _;have J:=good G b V m s (bG ());have Q:=good hb b V m U (bG ());have P:=(F b V VF m B s (bG ())).up K (aU _) (bk _) (show 8*d+8<=8*d+8+1 by(exact eG _ _));have R:=L b V VF m B U (bG ());clear U L F hb G;cases l with
  |z=>rw[nM r] at J;exact(AY K J Q P R (dz ()) (bk _) #[p,p]).up K v (~~~cD oi rfl m I p) (~~~a7 rC rfl)
  |o=>cases B rfl;exact(xF K J Q P R (dz ()) (bk _) #[p,p]).up K v (~~~cD wj rfl m I p) (~~~a7 rC rfl)
|@bg d C l f n x a b' k hn G hb F L=>
  intro b V VF m B s r;have T:=fG (f:=f) (d:=d) (VF:=VF);have v:=iU (f:=f) (d:=d) (VF:=VF);have I:=(eQ (d:=d) m).1;have p:=dJ d m;have U:b=false->iz (C++[#[x,l,.val k]]):=λq=>(s q).val _ _ _;have J:=good G b V m s (bG ());have Q:=good hb b V m U (bG ());have P:=(F b V VF m B s (bG ())).up K (aU _) (bk _) (show 8*d+8<=8*d+8+1 by(exact eG _ _));have R:=L b V VF m B U (bG ());clear U L F hb G;cases l with
  |z=>rw[nM r] at J Q;exact(QB K hn J Q P R (dz ()) (bk _) #[p,p]).up K v (~~~cD FC rfl m I) (~~~a7 rC rfl)
  |o=>cases B rfl;exact(QA K J Q P R (dz ()) (bk _) #[p,p]).up K v (~~~cD wj rfl m I p) (~~~a7 rC rfl)
|@lift d C f a G F=>
  intro b V VF m B s r;have T:=fG (f:=f) (d:=d) (VF:=VF);have v:=iU (f:=f) (d:=d) (VF:=VF);have I:=(eQ (d:=d) m).1;have p:=dJ d m;exact(G2 K (good G b V m s (bG ())) (F b V VF m B s (bG ())) (dz ())).up K (bG ()) (~~~cD mi rfl m I p) (eG _ _)
|@run d C a G F=>
  intro b V VF m B s r;have v:=iU (f:=true) (d:=d) (VF:=VF);have WJ:500<=fb true d VF:=by show 500<=2*d+max 500 (fa d+max 70 VF);exact bD 0x10c10ce18784dd079c4322d079c8208049201241248049201241248 rfl
  have I:=(eQ (d:=d) m).1;have p:=dJ d m;have J:=good G b V m s (bG ());rw[nM r] at J;exact(Ue K J (F b V VF m B s (bG ())) (dz ())).up K v (~~~cD mi rfl m I p) (eG _ _)
|@bK d C f a G F=>
  intro b V VF m B s r;have T:=fG (f:=f) (d:=d) (VF:=VF);have v:=iU (f:=f) (d:=d) (VF:=VF);have I:=(eQ (d:=d) m).1;have p:=dJ d m;have X:d<=cap .o b:=by cases b with
   |false=>have r:d+1<=5:=r;show d<=4;(exact cE ())
   |true=>have r:d+1<=2:=r;show d<=3;exact a7 Ed rfl r
  have h4:d<=4:=by clear r;cases b with
   |false=>exact X
   |true=>have:d<=3:=X;(exact kF ())
  have Cd:=fG (f:=false) (d:=d) (VF:=VF);have Ce:=H6 (f:=f) (d:=d) (VF:=VF);exact(p5 K (f':=false) (~~~ff) (good G b V m s X) (F b V VF m (λ_=>rfl) s X) (~~~aM 0xd06304cf812412412481643053461e1 rfl h4 Cd)).up K (~~~bD Em rfl v Ce) (~~~cD mi rfl m I p) (eG _ _)
|@hole d C f a G F=>
  intro b V VF m B s r;have T:=fG (f:=f) (d:=d) (VF:=VF);have v:=iU (f:=f) (d:=d) (VF:=VF);have I:=(eQ (d:=d) m).1;have p:=dJ d m;have X:d<=cap .z b:=by cases b with
   |false=>have r:d+1<=4:=r;show d<=5;exact a7 Ee rfl r
   |true=>have r:d+1<=3:=r;show d<=2;(exact cE ())
  have Cd:=fG (f:=false) (d:=d) (VF:=VF);have Ce:=H6 (f:=f) (d:=d) (VF:=VF);exact(xj K (f':=false) (~~~ff) (F b V VF m (λq=>by cases q) s X) (dz ())).up K (~~~bD Em rfl v Ce) (~~~cD mi rfl m I p) (eG _ _)
|@def_ d C l f g x a b' ka k k' hl G hb F L=>
  intro b V VF m B s r;have T:=fG (f:=f) (d:=d) (VF:=VF);have v:=iU (f:=f) (d:=d) (VF:=VF);have I:=(eQ (d:=d) m).1;have p:=dJ d m;have Cf:b=false->iz (C++[#[x,l,.val ka]]):=λq=>(s q).val _ _ _;have J:=good G b V m Cf (bG ());have P:=F b V VF m (λ_=>rfl) Cf (bG ());clear Cf F G;cases l with
  |z=>
   have B9:0<=max V (W d V):=by exact cS Eb rfl p
   have h11:=(eQ (d:=d) m).2;have R:=L b (max V (W d V)) (max VF (fb false d VF)) B9 (λq=>by cases q) (λq=>(s q).fz _ _ _) (bG ());have Cd:=fG (f:=f) (d:=d) (VF:=max VF (fb false d VF));have Wk:=Sy (f:=f) (d:=d) (VF:=VF);rw[nM r] at J;exact(Ui K (k':=k') J P R (dz ()) (~~~aM zw rfl) (~~~aM wd rfl) (~~~cS zw rfl) (~~~cS wd rfl) p).up K Wk (~~~cD Ec rfl m h11) (~~~a7 rC rfl)
  |o=>
   cases B rfl;obtain⟨rfl,rfl⟩:=hl rfl;have h3:d<=3:=by cases b with
    |false=>have r:d+1<=4:=r;(exact cE ())
    |true=>have r:d+1<=3:=r;(exact bG ())
   have Q:=good hb true V m (~~~tf) (show d<=3 from h3);have R:=L true V VF m (λ_=>rfl) (~~~tf) (show d<=3 from h3);exact(Uj K J Q P R (dz ()) (bk _) #[p,p]).up K v (~~~cD zx rfl m I p) (~~~a7 rC rfl)
|@kept d C f x g a b' G hb F L=>
  intro b V VF m B s r;cases B rfl;have p:=dJ d m;have Y:=qb m (show d-1<=d by(exact Nat.sub_le _ _));have Z:=dJ (d-1) m;have I:=(eQ (d:=d) m).1;have h4:d+1<=4:=by cases b with
   |false=>exact r
   |true=>have r:d+1<=3:=r;(exact kF ())
  have T:=fG (f:=false) (d:=d-1) (VF:=VF);have BU:fb false (d-1) VF+6<=fb false (d+1) VF:=by
   clear T h4 I Z Y p r L F hb G;cases d with
   |zero=>show 0+max 70 VF+6<=14+max 70 VF;exact a7 0x10cc18786e0660433061e1808208049201241248049049201248 rfl
   |succ e=>have h1:fb false e VF+2<=fb false (e+1) VF:=iU;have e2:fa (e+1+1)=14+2*fa (e+1):=rfl;show fb false e VF+6<=fa (e+1+1)+max 70 VF;have h1:fb false e VF+2<=fa (e+1)+max 70 VF:=h1;exact ej 0x10ce18784d06630820808900908900904920224224224024124808908908900904920224024224024124818110f8ae3450433861e13c188c rfl e2 h1
  have U:b=false->iz (C++[#[x,.o,.val .aD]]++[#[g,.z,.val .ba]]):=λq=>((s q).val _ _ _).val _ _ _;have J:=good G b V m s (~~~aM mj rfl r);have Q:=good hb b V m U (~~~aM mj rfl r);have P:=F b V VF m (λ_=>rfl) s (~~~aM mj rfl r);have R:=L b V VF m (λ_=>rfl) U (~~~aM mj rfl r);have gn:bI V 0 (C++[#[x,.o,.val .aD]]) 0 1 .o (.name x) .aD:=pZ (kP C #[x,.o,.val .aD]) (aU _);have gq:bI V 0 (C++[#[x,.o,.val .aD]]) 0 30 .z (.un .bK (.name x)) .ba:=kl (bk _) gn;have u0:=kl (D':=30) Z Q;have ih:=xj K (f:=false) (f':=false) (λq=>q) (AY K (x:=g) gq u0 (p5 K (f':=false) (λq=>q) gn (xi K (kP C #[x,.o,.val .aD]) (dz ())) (dz ())) (p5 K (f:=false) (f':=false) (λq=>q) Q R (~~~aM 0xd06304284cf880490090490492012402412481640613053461e1 rfl h4 T)) (ee _ _) (show(0:Int)+W (d-1) V<=W (d-1) V by exact bw jG rfl) #[bk _,Z]) (ee _ _);exact(xF K (J.up (aU _) (show 30+(d-1)<=30+d by exact a7 wk rfl) (bk _)) (rR (k:=.aD) (D:=30+d) (tW (x:=g) gq u0 (show(0:Int)+W (d-1) V<=W (d-1) V by exact bw jG rfl)) (eG _ _)) (P.up K (show fb false (d-1) VF<=fb false (d-1) VF+1+2+1 by exact a7 0x184188184c301248 rfl) (bk _) (show 8*(d-1)+8<=8*(d-1)+8+1+1 by exact a7 0x1841841a040a132806810284ca08208049201248248049209201248 rfl)) ih (ee _ _) (bk _) #[Z,Z]).up K () (~~~kH 0xd04c04c84124124824a24124814e8053cc14c80534110fa813a3 rfl m Y Z I) (~~~a7 0x1a0406132806106910284ca08049201248 rfl)
|@twice d C f x g a y i b' c G hb iv F L gC=>
  intro b V VF m B s r;cases B rfl;have p:=dJ d m;have Y:=qb m (show d-1<=d by(exact Nat.sub_le _ _));have uX:=qb m (show d-2<=d by(exact Nat.sub_le _ _));have Z:=dJ (d-1) m;have kK:=dJ (d-2) m;have I:=(eQ (d:=d) m).1;have h4:d+1<=4:=by cases b with
   |false=>exact r
   |true=>have r:d+1<=3:=r;(exact kF ())
  have T:=fG (f:=false) (d:=d-1) (VF:=VF);have BU:fb false (d-1) VF+10<=fb false (d+1) VF:=by
   clear T h4 I kK Z uX Y p r gC F iv G;cases d with
   |zero=>show 0+max 70 VF+10<=14+max 70 VF;exact a7 0x10cc18786e06a0433061e1808208049201241248049049201248 rfl
   |succ e=>have h1:fb false e VF+2<=fb false (e+1) VF:=iU;have e2:fa (e+1+1)=14+2*fa (e+1):=rfl;show fb false e VF+10<=fa (e+1+1)+max 70 VF;have h1:fb false e VF+2<=fa (e+1)+max 70 VF:=h1;exact ej 0x10ce18784d06a30820804900904900904920124124124024124804904904900904920124024124024124818110f8ae3450433861e13c188c rfl e2 h1
  have fm:∀{i j:Nat},i<=j->fb false i VF<=fb false j VF:=λ{i j} h=>by
   induction j with
   |zero=>rw[Nat.le_zero.mp h];exact aU _
   |succ j ih=>
    rcases Nat.lt_or_ge i (j+1) with q|q
    ·exact bZ (ih (cE ())) (iQ (iU (f:=false) (d:=j) (VF:=VF)))
    ·rw[show i=j+1 by exact cm (aM zo rfl h) (aM vZ rfl q)];exact aU _
  have U:b=false->iz (C++[#[x,.o,.val .aD]]++[#[g,.z,.val .ba]]++[#[y,.o,.val .aD]]):=λq=>(((s q).val _ _ _).val _ _ _).val _ _ _;have g3:=good iv b V m U (~~~aM zy rfl r);have J1:=((good hb b V m U (gp _)).up (aU _) (show 30+0<=30+(d-2) by(exact eG _ _)) (bk _)).up (show ub .o b 0<=ub .o b (d-2) from oz (gp _)) (aU _) (bk _);have J2:W 0 V=0:=rfl;have uu:∃u4,ub .o b (d-2)=0∨ub .o b (d-2)+1<=u4:=#[ub .o b (d-2)+1,.inr (aU _)];refine cb (uu) λu4 BW=>?_;have g4:=An (o:=.sum) (k':=.aD) J1 g3 BW (aU _) (show W 0 V+W (d-2) V<=W (d-2) V by exact cS En rfl J2);have J3:bI V 0 (C++[#[x,.o,.val .aD]]++[#[g,.z,.val .ba]]) u4 (30+(d-2)+1) .o (.num i) .aD:=tV (ee _ _);have g5:=tX (jq:=.aD) (x:=y) J3 g4 (u':=u4+1) (.inr (aU _)) (aU _) (show 1+0+W (d-2) V<=1+W (d-2) V by(exact bk _));have gn:bI V 0 (C++[#[x,.o,.val .aD]]) 0 1 .o (.name x) .aD:=pZ (kP C #[x,.o,.val .aD]) (aU _);have gq:bI V 0 (C++[#[x,.o,.val .aD]]) 0 30 .z (.un .bK (.name x)) .ba:=kl (bk _) gn;have u0:=kl (D':=30) (show(0:Int)<=1+W (d-2) V by exact bw wA rfl kK) g5;have gx:∃u9,bI V (W (d-1) V) C u9 (30+d) .o a .aD/\bI V (1+W (d-2) V) (C++[#[x,.o,.val .aD]]) u9 (30+d) .o (.un .hole (.aY g (.un .bK (.name x)) (.un .bK (.aY y (.num i) (.ak .sum b' c))))) .aD:=#[max (ub .o b (d-1)) (u4+1),(good G b V m s (~~~aM mj rfl r)).up (~~~aM 0x306134c308049201241248 rfl) (~~~a7 wk rfl) (bk _),(rR (k:=.aD) (D:=30+d) (tW (x:=g) gq u0 (show(0:Int)+(1+W (d-2) V)<=1+W (d-2) V by exact bw Eo rfl)) (eG _ _)).up (~~~aM 0x306130d061308049049201248 rfl) (aU _) (bk _)];obtain⟨u9,Wl,Wm⟩:=gx;exact(xF K Wl Wm ((F b V VF m (λ_=>rfl) s (~~~aM mj rfl r)).up K (show fb false (d-1) VF<=fb false (d-1) VF+1+2+1+2+1 by exact a7 0x184188184188184c301248 rfl) (bk _) (show 8*(d-1)+8<=8*d+10+1 by exact a7 0x1841a8432806810284ca08049201248 rfl)) ((xj K (f:=false) (f':=false) (λq=>q) (AY K (x:=g) gq u0 (p5 K (f':=false) (λq=>q) gn (xi K (kP C #[x,.o,.val .aD]) (ee _ _)) (~~~a7 0x610623018e10490492053061e1 rfl T)) (p5 K (f:=false) (f':=false) (λq=>q) g5 (xF K (x:=y) (f:=false) J3 g4 (AX K (ee _ _)) (H8 K (o:=.sum) J1 g3 ((L b V VF m (λ_=>rfl) U (gp _)).up K (fm (show 0<=d-1 by(exact gp _))) (bk _) (show 8*0+8<=8*(d-2)+8 by(exact ee _ _))) ((gC b V VF m (λ_=>rfl) U (~~~aM zy rfl r)).up K (fm (show d-2<=d-1 by exact a7 0x284c0a2308208049201241248049049201248 rfl)) (bk _) (aU _)) (dz ()) (show W 0 V+W (d-2) V<=W (d-2) V by exact cS En rfl J2) #[bk _,kK]) (ee _ _) (show 1+0+W (d-2) V<=1+W (d-2) V by(exact bk _)) #[bk _,kK]) (~~~aM 0x184188d06306106104288cf880490090490492012402412481640613053461e1 rfl h4 T)) (ee _ _) (show(0:Int)+(1+W (d-2) V)<=1+W (d-2) V by exact bw Eo rfl) #[bk _,~~~bw wA rfl kK]) (ee _ _)).up K (aU _) (bk _) (show 8*(d-2)+8+1+1<=8*d+10 by exact a7 0x1a8432806106106810288ca08049201248 rfl)) (ee _ _) (bk _) #[Z,~~~bw wA rfl kK]).up K (bG ()) (~~~qF 0x38104d8413210490492092490490492053e015030540d14d805381110a813e3 rfl m Y uX kK I) (~~~a7 0x1a0406132806106a10ca01248 rfl)
end
section
variable{C:Ctx}{L L1:aP}{U ae ao b9:H}{a b o:E}{es:EL}{c f:Nat}
def jK{α d:Type}{m:M α}{g:α->M d}(h:m U=.aF c ae):M.bind m g U=.aF c ae:=by unfold M.bind;rw[h]
def eN{s i:Nat}{m:Int}{vs:List V}(d:aj C o L U=.ok (.ref s) ae)(e:Self ae s i m)(g:dC C es L ae=.ok vs ao)(h:C.call f (.ref s::vs) ao=.aF c b9):aj C (.cQ f o es) L U=.aF c b9:=by rw[y0,aN d,aN e.ok,aN g,h]
def G3{vs:List V}(d:dC C es L U=.ok vs ae)(e:C.call f vs ae=.aF c ao):aj C (.call f es) L U=.aF c ao:=by rw[kR,aN d,e]
def SD(d:dC C es L U=.aF c ae):aj C (.call f es) L U=.aF c ae:=by rw[kR];exact jK d
def uq(d:dC C es L U=.aF c ae):aj C (.ay es) L U=.aF c ae:=jK d
def qc(d:aj C a L U=.aF c ae):dC C (.cons a es) L U=.aF c ae:=jK d
def gz{v:V}(d:aj C a L U=.ok v ae)(e:dC C es L ae=.aF c ao):dC C (.cons a es) L U=.aF c ao:=(aN d).trans (jK e)
def SE{d:Operator}{v:V}(e:aj C a L U=.ok v ae)(g:aj C b L ae=.aF c ao):aj C (.ak d a b) L U=.aF c ao:=(aN e).trans (jK g)
def QC(d:aj C a L U=.aF c ae):aj C (.tuple a) L U=.aF c ae:=jK d
def SF{d:CmpOp}(e:aj C a L U=.aF c ae):bQ C (.cmp d a b) L U=.aF c ae:=jK e
def wN{α d:Type}{m:aP->M α}{g:α->Qh.N d}(h:m L U=.aF c ae):Qh.N.bind (Qh.N.lift m) g L U=.aF c L ae:=by unfold Qh.N.bind Qh.N.lift;rw[h]
def lh{i:Nat}(d:aj C a L U=.aF c ae):cT C (.aK i a) L U=.aF c L ae:=wN d
def g7(d:aj C a L U=.aF c ae):cT C (.ret a) L U=.aF c L ae:=wN d
def QD(d:aj C a L U=.aF c ae):cT C (.expr a) L U=.aF c L ae:=wN d
def QE{t e:SL}(d:bQ C a L U=.aF c ae):cT C (.ite a t e) L U=.aF c L ae:=wN d
def eo{s:S}{r:SL}(h:cT C s L U=.aF c L1 ae):a8 C (.cons s r) L U=.aF c L1 ae:=by show Qh.N.bind (cT C s) _ L U=_;unfold Qh.N.bind;rw[h]
def eM{t r:SL}(h:bQ C a L U=.ok true ae)(d:a8 C t L ae=.aF c L1 ao):a8 C (.cons (.ite a t .nil) r) L U=.aF c L1 ao:=
 eo (by rw[jD h];exact d)
end
section
variable{P:Prog}{sc:List Int}(B:oX P)
include B
def nR{n s a:Nat}{m:Int}{U:H}(S:Self U s a m)(d:0<=m)(e:m+1<10^10):av P sc (n+1) 26 [.ref s] U=.ok (.str (vn (m+1))) (U.set a (.dM (m+1))):=by
 rw[cI B.JR rfl];have b:s≠a:=λq=>by obtain⟨c,h⟩:=S.i;(replace h:=(S.n)▸(q▸h));cases h
 have f:Self (U.set a (.dM (m+1))) s a (m+1):=let #[c,h]:=S.i;#[#[c,qo h (λq=>b q.symm)],gy S.n]
 have g:tR (.int (m+1)) (U.set a (.dM (m+1)))=.ok (.str (fW (m+1))) (U.set a (.dM (m+1))):=by
  show(if 0<=m+1/\m+1<10^10 then _ else _:M V) _=_;rw[if_pos #[~~~bw jH rfl d,by assumption]];rfl
 have j:binop .Add (.str "v") (.str (fW (m+1))) (U.set a (.dM (m+1)))=.ok (.str (vn (m+1))) (U.set a (.dM (m+1))):=by
  show(if(Str.ofString "v").length+(fW (m+1)).length<=aJ then _ else _:M V) _=_;rw[if_pos (text_len (~~~bw jH rfl d) e)];rfl
 exact(congrArg cp ((dt (Oh (bX (GP (aB rfl) S) rfl rfl) (aB rfl) S)).trans (bq (bX rfl (by rw[EA,aN (GP (aB rfl) f)];exact g) j)))).trans rfl
omit B in
def QF{C:Ctx}{L:aP}{o:E}{es:EL}{f s i c:Nat}{m:Int}{U ae ao:H}(a:aj C o L U=.ok (.ref s) ae)(b:Self ae s i m)(d:dC C es L ae=.aF c ao):aj C (.cQ f o es) L U=.aF c ao:=by (refine y0▸?_;refine(aN a)▸?_;refine(aN b.ok)▸?_);exact jK d
def gY{n s d c:Nat}{t:Tm}{w:Str}{U a:H}{L':aP}(b:∀C x L,aj C (.aq (.aa 1) (.int 0)) (x::some t.ag::L) U=.ok (.str w) U)(h:a8 (cx P sc n) I0 [some (.ref s),some t.ag,some (.ref d),some (.str w),none,none,none,none,none,none,none] U=.aF c L' a):av P sc (n+1) 27 [.ref s,t.ag,.ref d] U=.aF c a:=by rw[cI B.B6 rfl];exact(congrArg cp ((bj (b _ _ _)).trans h)).trans rfl
def iR{n s d c:Nat}{t:Tm}{w:Str}{U a:H}{L':aP}(b:∀C x L,aj C (.aq (.aa 1) (.int 0)) (x::some t.ag::L) U=.ok (.str w) U)(h:a8 (cx P sc n) xR [some (.ref s),some t.ag,some (.ref d),some (.str w),none,none,none,none] U=.aF c L' a):av P sc (n+1) 28 [.ref s,t.ag,.ref d] U=.aF c a:=by rw[cI B.B7 rfl];exact(congrArg cp ((bj (b _ _ _)).trans h)).trans rfl
def SG{n s d a:Nat}{m:Int}{p:Tm}{i:Int}{U ae:H}(S:Self U s a m)(b:av P sc n 27 [.ref s,p.ag,.ref d] U=.ok (.int i) ae):av P sc (n+1) 27 [.ref s,(Tm.un .lift p).ag,.ref d] U=.ok (Tm.num i).ag ae:=
 kg B (λ_ _ _=>rfl) (jmp 9 ⋯ (cu ⋯ (bq (cf (ax rfl (ax (dg (aB rfl) S rfl b) a6)) ∅))))
def QG{n s d a c:Nat}{m:Int}{p:Tm}{U ae:H}(S:Self U s a m)(b:av P sc n 27 [.ref s,p.ag,.ref d] U=.aF c ae):av P sc (n+1) 27 [.ref s,(Tm.un .lift p).ag,.ref d] U=.aF c ae:=
 gY B (λ_ _ _=>rfl) (jmp 9 ⋯ (eM ⋯ (eo (g7 (uq (gz rfl (qc (eN (aB rfl) S rfl b))))))))
def QH{n s d a c:Nat}{m:Int}{u:U2}{x y:Tm}{U ae:H}(S:Self U s a m)(b:av P sc n 27 [.ref s,x.ag,.ref d] U=.aF c ae):av P sc (n+1) 27 [.ref s,(Tm.ak u x y).ag,.ref d] U=.aF c ae:=
 gY B (λ_ _ _=>rfl) ((cj (by cases u<;>rfl')).trans ((cj (by cases u<;>rfl')).trans (eM (by cases u<;>rfl') (eo (lh (eN (aB rfl) S rfl b))))))
def QI{n s d a c:Nat}{m m1:Int}{u:U2}{x y:Tm}{v:V}{U ae ao:H}(S:Self U s a m)(b:av P sc n 27 [.ref s,x.ag,.ref d] U=.ok v ae)(e:Self ae s a m1)(f:av P sc n 27 [.ref s,y.ag,.ref d] ae=.aF c ao):av P sc (n+1) 27 [.ref s,(Tm.ak u x y).ag,.ref d] U=.aF c ao:=
 gY B (λ_ _ _=>rfl) ((cj (by cases u<;>rfl')).trans ((cj (by cases u<;>rfl')).trans (eM (by cases u<;>rfl') (((bj (dg (aB rfl) S rfl b)).trans (eo (g7 (SD (gz (aB rfl) (gz (aB rfl) (qc (eN (aB rfl) e rfl f))))))))))))
def Ox{n s d a c:Nat}{m:Int}{x y z:Tm}{U ae:H}(S:Self U s a m)(b:av P sc n 27 [.ref s,x.ag,.ref d] U=.aF c ae):av P sc (n+1) 27 [.ref s,(Tm.when x y z).ag,.ref d] U=.aF c ae:=
 gY B (λ_ _ _=>rfl) (jmp 3 ⋯ (eM ⋯ (eo (QE (SF (eN (aB rfl) S rfl b))))))
def QJ{n s d a c:Nat}{m:Int}{x:Str}{p q:Tm}{U ae:H}(S:Self U s a m)(b:av P sc n 27 [.ref s,p.ag,.ref d] U=.aF c ae):av P sc (n+1) 27 [.ref s,(Tm.aY x p q).ag,.ref d] U=.aF c ae:=
 gY B (λ_ _ _=>rfl) (jmp 4 ⋯ (eM ⋯ (eo (lh (eN (aB rfl) S rfl b)))))
def QK{n s d a c:Nat}{m m1:Int}{x:Str}{p q:Tm}{v:V}{es:List (Str×V)}{U ae ao:H}(S:Self U s a m)(b:av P sc (n+1) 27 [.ref s,p.ag,.ref d] U=.ok v ae)(e:Self ae s a m1)(f:ae[d]?=some (.az es))(g:es.length<=aJ)(h:av P sc (n+1) 27 [.ref s,q.ag,.ref ae.length] (ae++[.az (bp es x v)])=.aF c ao):av P sc (n+2) 27 [.ref s,(Tm.aY x p q).ag,.ref d] U=.aF c ao:=
 gY B (λ_ _ _=>rfl) (jmp 4 ⋯ (eM ⋯ (((bj (dg (aB rfl) S rfl b)).trans (eo (g7 (eN (aB rfl) e (ax rfl (ax (aT (aS rfl (ax rfl rfl)) (fQ B.fy f g)) a6)) h)))))))
def MV{n s d a c:Nat}{m k:Int}{x:Str}{p q:Tm}{U ae:H}(S:Self U s a m)(b:av P sc n 27 [.ref s,p.ag,.ref d] U=.aF c ae):av P sc (n+1) 27 [.ref s,(Tm.bg k x p q).ag,.ref d] U=.aF c ae:=
 gY B (λ_ _ _=>rfl) (jmp 5 ⋯ (eM ⋯ (eo (lh (eN (aB rfl) S rfl b)))))
def SH{n s d a c:Nat}{m:Int}{g x b:Str}{p q:Tm}{es:List (Str×V)}{U ao:H}(S:Self U s a m)(e:U[d]?=some (.az es))(f:es.length<=aJ)(h:av P sc (n+1) 27 [.ref s,q.ag,.ref U.length] (U++[.az (bp es g (.ay [.str x,p.ag,.ref d]))])=.aF c ao):av P sc (n+2) 27 [.ref s,(Tm.def_ g x b p q).ag,.ref d] U=.aF c ao:=
 gY B (λ_ _ _=>rfl) (jmp 6 ⋯ (eM ⋯ (eo (g7 (eN (aB rfl) S (ax rfl (ax (aT (aS rfl (ax rfl (ax (cf (ax rfl (ax rfl rfl)) ∅) a6))) (fQ B.fy e f)) a6)) h)))))
def QL{n s d a c:Nat}{m:Int}{g:Str}{p:Tm}{U ae:H}(S:Self U s a m)(b:av P sc n 27 [.ref s,p.ag,.ref d] U=.aF c ae):av P sc (n+1) 27 [.ref s,(Tm.use g p).ag,.ref d] U=.aF c ae:=
 gY B (λ_ _ _=>rfl) (jmp 7 ⋯ (eM ⋯ (eo (lh (eN (aB rfl) S rfl b)))))
def QM{n s d a c:Nat}{f:Nat}{m m1:Int}{g x:Str}{p body:Tm}{v:V}{es b:List (Str×V)}{U ae ao:H}(S:Self U s a m)(h:av P sc (n+1) 27 [.ref s,p.ag,.ref d] U=.ok v ae)(i:Self ae s a m1)(j:ae[d]?=some (.az es))(k:dn es g=some (.ay [.str x,body.ag,.ref f]))(e:ae[f]?=some (.az b))(l:b.length<=aJ)(o:av P sc (n+1) 27 [.ref s,body.ag,.ref ae.length] (ae++[.az (bp b x v)])=.aF c ao):av P sc (n+2) 27 [.ref s,(Tm.use g p).ag,.ref d] U=.aF c ao:=
 gY B (λ_ _ _=>rfl) (jmp 7 ⋯ (eM ⋯ (((bj (dg (aB rfl) S rfl h)).trans ((dt (E1 (cC (aB rfl) rfl (jF j k)))).trans (eo (g7 (eN (aB rfl) i (aS rfl (ax (aT (aS rfl (aS rfl rfl)) (fQ B.fy e l)) a6)) o))))))))
def D9{n s d a c:Nat}{m:Int}{p:Tm}{U ae:H}(S:Self U s a m)(b:av P sc n 28 [.ref s,p.ag,.ref d] U=.aF c ae):av P sc (n+1) 27 [.ref s,(Tm.un .bK p).ag,.ref d] U=.aF c ae:=
 gY B (λ_ _ _=>rfl) (jmp 8 ⋯ (eM ⋯ (eo (lh (eN (aB rfl) S rfl b)))))
def MW{n s d a c:Nat}{m:Int}{p R:Tm}{U ae ao:H}(S:Self U s a m)(b:av P sc n 28 [.ref s,p.ag,.ref d] U=.ok R.ag ae)(e:av P sc n 24 [R.ag] ae=.aF c ao):av P sc (n+1) 27 [.ref s,(Tm.un .bK p).ag,.ref d] U=.aF c ao:=
 gY B (λ_ _ _=>rfl) (jmp 8 ⋯ (eM ⋯ (((bj (dg (aB rfl) S rfl b)).trans (eo (QD (G3 rfl e)))))))
def SJ{n s d a c:Nat}{m:Int}{p:Tm}{U ae:H}(S:Self U s a m)(b:av P sc n 27 [.ref s,p.ag,.ref d] U=.aF c ae):av P sc (n+1) 27 [.ref s,(Tm.un .run p).ag,.ref d] U=.aF c ae:=
 gY B (λ_ _ _=>rfl) (jmp 10 ⋯ (eo (g7 (QF (aB rfl) S (qc (eN (aB rfl) S rfl b))))))
def QN{n s d a c:Nat}{m:Int}{p:Tm}{U ae:H}(S:Self U s a m)(b:av P sc n 27 [.ref s,p.ag,.ref d] U=.aF c ae):av P sc (n+1) 28 [.ref s,(Tm.un .hole p).ag,.ref d] U=.aF c ae:=
 iR B (λ_ _ _=>rfl) (jmp 2 ⋯ (eM ⋯ (eo (g7 (eN (aB rfl) S rfl b)))))
def SK{n s d a c:Nat}{m:Int}{es:List (Str×V)}{g y:Str}{p:Tm}{U ae:H}(S:Self U s a m)(b:U[d]?=some (.az es))(e:dn es g=some (.str y))(f:av P sc n 28 [.ref s,p.ag,.ref d] U=.aF c ae):av P sc (n+1) 28 [.ref s,(Tm.use g p).ag,.ref d] U=.aF c ae:=
 iR B (λ_ _ _=>rfl) (jmp 3 ⋯ (eM ⋯ (eo (g7 (uq (gz rfl (gz (cC (aB rfl) rfl (jF b e)) (qc (eN (aB rfl) S rfl f)))))))))
def QO{n s d a c:Nat}{m m1:Int}{x y:Str}{p q:Tm}{U b ae:H}(S:Self U s a m)(e:av P sc (n+1) 26 [.ref s] U=.ok (.str y) b)(f:Self b s a m1)(g:av P sc (n+1) 28 [.ref s,p.ag,.ref d] b=.aF c ae):av P sc (n+2) 28 [.ref s,(Tm.aY x p q).ag,.ref d] U=.aF c ae:=
 iR B (λ_ _ _=>rfl) (jmp 4 ⋯ (eM ⋯ (((bj (dg (aB rfl) S a6 e)).trans (eo (lh (eN (aB rfl) f rfl g)))))))
def QP{n s d a c:Nat}{m m1 m2:Int}{x y:Str}{p q:Tm}{v:V}{es:List (Str×V)}{U b ae ao:H}(S:Self U s a m)(e:av P sc (n+1) 26 [.ref s] U=.ok (.str y) b)(f:Self b s a m1)(g:av P sc (n+1) 28 [.ref s,p.ag,.ref d] b=.ok v ae)(h:Self ae s a m2)(i:ae[d]?=some (.az es))(j:es.length<=aJ)(k:av P sc (n+1) 28 [.ref s,q.ag,.ref ae.length] (ae++[.az (bp es x (.str y))])=.aF c ao):av P sc (n+2) 28 [.ref s,(Tm.aY x p q).ag,.ref d] U=.aF c ao:=
 iR B (λ_ _ _=>rfl) (jmp 4 ⋯ (eM ⋯ (((bj (dg (aB rfl) S a6 e)).trans ((bj (dg (aB rfl) f rfl g)).trans (eo (g7 (uq (gz (aB rfl) (gz (aB rfl) (gz (aB rfl) (qc (eN (aB rfl) h (ax rfl (ax (aT (aS rfl (ax rfl rfl)) (fQ B.fy i j)) a6)) k)))))))))))))
def MX{n s d a c:Nat}{k:Int}{m m1:Int}{x y:Str}{p q:Tm}{U b ae:H}(S:Self U s a m)(e:av P sc (n+1) 26 [.ref s] U=.ok (.str y) b)(f:Self b s a m1)(g:av P sc (n+1) 28 [.ref s,p.ag,.ref d] b=.aF c ae):av P sc (n+2) 28 [.ref s,(Tm.bg k x p q).ag,.ref d] U=.aF c ae:=
 iR B (λ_ _ _=>rfl) (jmp 5 ⋯ (eM ⋯ (((bj (dg (aB rfl) S a6 e)).trans (eo (lh (eN (aB rfl) f rfl g)))))))
def MY{n s d a c:Nat}{k:Int}{m m1 m2:Int}{x y:Str}{p q:Tm}{v:V}{es:List (Str×V)}{U b ae ao:H}(S:Self U s a m)(e:av P sc (n+1) 26 [.ref s] U=.ok (.str y) b)(f:Self b s a m1)(g:av P sc (n+1) 28 [.ref s,p.ag,.ref d] b=.ok v ae)(h:Self ae s a m2)(i:ae[d]?=some (.az es))(j:es.length<=aJ)(l:av P sc (n+1) 28 [.ref s,q.ag,.ref ae.length] (ae++[.az (bp es x (.str y))])=.aF c ao):av P sc (n+2) 28 [.ref s,(Tm.bg k x p q).ag,.ref d] U=.aF c ao:=
 iR B (λ_ _ _=>rfl) (jmp 5 ⋯ (eM ⋯ (((bj (dg (aB rfl) S a6 e)).trans ((bj (dg (aB rfl) f rfl g)).trans (eo (g7 (uq (gz (aB rfl) (gz rfl (gz (aB rfl) (gz (aB rfl) (qc (eN (aB rfl) h (ax rfl (ax (aT (aS rfl (ax rfl rfl)) (fQ B.fy i j)) a6)) l))))))))))))))
end
section
variable{P:Prog}{sc:List Int}(B:oX P)
include B
def Oy{n s d a c:Nat}{m m1:Int}{x y z:Tm}{i:Int}{U ae ao:H}(S:Self U s a m)(g:av P sc n 27 [.ref s,x.ag,.ref d] U=.ok (.int i) ae)(f:Self ae s a m1)(b:av P sc n 27 [.ref s,(if i=0 then z else y).ag,.ref d] ae=.aF c ao):
  av P sc (n+1) 27 [.ref s,(Tm.when x y z).ag,.ref d] U=.aF c ao:=by
 have e:bQ (cx P sc n) (.cmp .NotEq (.cQ 27 (.aa 0) {.aq (.aa 1) (.int 1),.aa 2}) (.int 0)) [some (.ref s),some (Tm.when x y z).ag,some (.ref d),some (.str "when"),none,none,none,none,none,none,none] U=.ok (!(i==0)) ae:=
  cZ (dg (aB rfl) S (by rfl) g) rfl (by rw[pf];rfl)
 refine gY B (w:="when") (L':=[some (.ref s),some (Tm.when x y z).ag,some (.ref d),some (.str "when"),none,none,none,none,none,none,none]) (λ_ _ _=>rfl) (jmp 3 ⋯ (eM (ae:=U) ⋯ ?_))
 by_cases h:i=0
 ·rw[if_pos h] at b;rw[h] at e;exact(cj e).trans (eo (g7 (eN (aB rfl) f rfl b)))
 ·rw[if_neg h] at b;rw[beq_eq_false_iff_ne.mpr h] at e;exact eM e (eo (g7 (eN (aB rfl) f rfl b)))
def QQ{n:Nat}{t:Tm}{U:H}(h:2000<t.size∨30<t.depth)(c:t.depth<=n):∃τ,av P sc (n+2) 24 [t.ag] U=.aF 7 (U++τ):=by
 refine cb (yZ (sc:=sc) B.f0 B.f1 n t U c) λa d=>cb (yL (sc:=sc) B.f0 B.f2 n t (U++a) c) λe f=>?_
 by_cases b:2000<t.size
 ·refine#[a,?_];rw[cI B.yl rfl];exact(congrArg cp (eM (ic (any_cons (t:=true) (cZ (aT (by rfl) d) (zX B) (Bn (Int.ofNat_lt.mpr b) _)) (~~~tf) (λ_=>#[rfl,rfl]))) (eo rfl))).trans rfl
 ·refine#[a++e,?_];rw[cI B.yl rfl,←List.append_assoc];exact(congrArg cp (eM (ic (any_cons (cZ (aT rfl d) (zX B) (Jb (λq=>b (Int.ofNat_lt.mp q)) _)) (λ_=>any_cons (cZ (aT rfl f) (GQ B) (Bn (Int.ofNat_lt.mpr (h.resolve_left b)) _)) (~~~tf) (λ_=>#[rfl,rfl])) (~~~ff))) (eo rfl))).trans rfl
end
def sT{s:Src}{f:V->M (Option V)}{n k c:Nat}{U ae ao:H}{v:V}(a:ea s k U=.ok (some v) ae)(b:f v ae=.aF c ao):dG s f (n+1) k U=.aF c ao:=(aN a).trans (jK b)
def vy{s:Src}{f:V->M (Option V)}{n k c:Nat}{U ae ao b9:H}{v:V}{y:Option V}(a:ea s k U=.ok (some v) ae)(b:f v ae=.ok y ao)(d:dG s f n (k+1) ao=.aF c b9):dG s f (n+1) k U=.aF c b9:=(aN a).trans ((aN b).trans (jK d))
def SM{C:Ctx}{elt a:E}{v k c:Nat}{br:List Nat}{L:aP}{U ae ao:H}{x:V}{sr:Src}(d:aj C a L U=.ok x ae)(e:srcOf x ae=.ok sr ae)(hk:fh sr ae=.ok k ae)(b:k<=aJ)(f:dG sr (λg=>M.bind (aj C elt (cq (dj L br) v g)) λy=>M.pure (some y)) (k+1) 0 ae=.aF c ao):aj C (.comp elt v br a) L U=.aF c ao:=by rw[md,aN d,aN e,aN hk,if_pos b];exact jK f
def QR{C:Ctx}{i c:Nat}{e:E}{b:SL}{L L1:aP}{U ae ao:H}{n:Int}(a:aj C e L U=.ok (.int n) ae)(d:0<=n/\n<=1000000)(f:eK (λk=>M.pure ((d9 n)[k]?.map λv=>[(i,v)])) (a8 C b) (n.toNat+1) 0 L ae=.aF c L1 ao):cT C (.eV i e b) L U=.aF c L1 ao:=by simp only[kS,Qh.N.bind,Qh.N.lift,a,vA,M.pure];rw[if_pos d];exact f
def L5{a:Nat->M (Option (List (Nat×V)))}{b:Qh.N Fl}{n k c:Nat}{L L1 L2:aP}{U ae ao:H}{ps:List (Nat×V)}(d:a k U=.ok (some ps) ae)(e:Qh.N.gm (ps.map (·.1)) (ps.map (·.2)) L ae=.ok Unit.unit L1 ae)(f:b L1 ae=.aF c L2 ao):
  eK a b (n+1) k L U=.aF c L2 ao:=by simp only[eK,Qh.N.bind,Qh.N.lift,d,e,f]
section
variable{P:Prog}{sc:List Int}(B:oX P)
include B
def L6{n s d a c:Nat}{k:Int}{x:Str}{p q:Tm}(g:Nat)(m:g<k.toNat)(I:Nat->V->H->Prop)(Q:H->Prop)(w:∀j v b,j<g->I j v b->(∃m',Self b s a m')/\∃es,b[d]?=some (.az es)/\es.length<=aJ/\∃v' f,av P sc (n+1) 27 [.ref s,q.ag,.ref b.length] (b++[.az (bp es x v)])=.ok v' f/\I (j+1) v' f)(z:∀v b,I g v b->(∃m',Self b s a m')/\∃es,b[d]?=some (.az es)/\es.length<=aJ/\∃f,av P sc (n+1) 27 [.ref s,q.ag,.ref b.length] (b++[.az (bp es x v)])=.aF c f/\Q f):
  ∀(r j N:Nat)(v:V)(y:Option V)(U:H),j+r=g->N+j=k.toNat->I j v U->∃L' b,eK (λA=>M.pure ((d9 k)[A]?.map λv=>[(6,v)])) (a8 (cx P sc (n+1)) HT) (N+1) j [some (.ref s),some (Tm.bg k x p q).ag,some (.ref d),some (.str "turns"),none,some v,y,none,none,none,none] U=.aF c L' b/\Q b:=by
 intro r
 induction r with
|zero=>
  intro j N v y U i l h;have:j=g:=by assumption
  subst this;obtain⟨⟨m',S⟩,es,o,t,f,e,u⟩:=z v U h;exact#[[some (.ref s),some (Tm.bg k x p q).ag,some (.ref d),some (.str "turns"),none,some v,some (.int j),none,none,none,none],f,L5 (by rw[tr ()];rfl) rfl (eo (lh (eN (aB rfl) S (ax rfl (ax (aT (aS rfl (ax rfl rfl)) (fQ B.fy o t)) a6)) e))),u]
|succ r C=>
  intro j N v y U i l h;refine bB λL D=>?_;obtain⟨⟨m',S⟩,es,o,t,v',f,e,F⟩:=w j v U (bD km rfl i) h;obtain⟨N,rfl⟩:∃G,N=G+1:=#[N-1,~~~cm (a7 iW rfl) (ij 0x30184284c20124804900904900900904904920538184d18d0418503c63813cc rfl m i l)];refine bl (C (j+1) N v' (some (.int j)) f (cm (bD oc rfl i) (bD og rfl i)) (cm (bD 0x38106134c04900904920638134184c rfl l) (bD 0x4184e34c04904920630138184d rfl l)) F) λL' J K u=>D ?_;exact#[L',J,(q9 (ps:=[(6,.int j)]) (ae:=U) (by rw[tr (~~~bD 0x34184c04900904920634130184e rfl l)];rfl) rfl ((bj (dg (aB rfl) S (ax rfl (ax (aT (aS rfl (ax (x:=.str x) rfl (by rfl))) (fQ B.fy o t)) a6)) e)).trans eU)).trans K,u]
def MZ{n s d a c:Nat}{m:Int}{k:Int}{x:Str}{p q:Tm}{u:V}{U ae:H}(S:Self U s a m)(hk:0<=k/\k<=1000000)(h:av P sc (n+1) 27 [.ref s,p.ag,.ref d] U=.ok u ae)(e:Nat)(g:e<k.toNat)(I:Nat->V->H->Prop)(Q:H->Prop)(i:I 0 u ae)(l:∀j v b,j<e->I j v b->(∃m',Self b s a m')/\∃es,b[d]?=some (.az es)/\es.length<=aJ/\∃v' f,av P sc (n+1) 27 [.ref s,q.ag,.ref b.length] (b++[.az (bp es x v)])=.ok v' f/\I (j+1) v' f)(o:∀v b,I e v b->(∃m',Self b s a m')/\∃es,b[d]?=some (.az es)/\es.length<=aJ/\∃f,av P sc (n+1) 27 [.ref s,q.ag,.ref b.length] (b++[.az (bp es x v)])=.aF c f/\Q f):
  ∃ao,av P sc (n+2) 27 [.ref s,(Tm.bg k x p q).ag,.ref d] U=.aF c ao/\Q ao:=by exact bl (L6 (sc:=sc) B (n:=n) (k:=k) (x:=x) (p:=p) (q:=q) e g I Q l o e 0 k.toNat u none ae (~~~cm (a7 jG rfl) (a7 oh rfl)) (by rfl) i) λw ao r t=>#[ao,gY B (λ_ _ _=>rfl) (jmp 5 ⋯ (eM ⋯ ((bj (dg (aB rfl) S rfl h)).trans (eo (QR rfl hk r))))),t]
def QS{n s d a c:Nat}{m e m1:Int}{g x y z f:Str}{p q:Tm}{es:List (Str×V)}{U b ae ao:H}(S:Self U s a m)(h:av P sc (n+1) 26 [.ref s] U=.ok (.str y) b)(i:Self b s a e)(j:av P sc (n+1) 26 [.ref s] b=.ok (.str z) ae)(k:Self ae s a m1)(l:ae[d]?=some (.az es))(o:es.length<=aJ)(r:av P sc (n+1) 28 [.ref s,p.ag,.ref ae.length] (ae++[.az (bp es x (.str z))])=.aF c ao):
  av P sc (n+2) 28 [.ref s,(Tm.def_ g x f p q).ag,.ref d] U=.aF c ao:=
 iR B (λ_ _ _=>rfl) (jmp 6 ⋯ (eM ⋯ ((bj (dg (aB rfl) S a6 h)).trans ((bj (dg (aB rfl) i a6 j)).trans (eo (lh (eN (aB rfl) k (ax rfl (ax (aT (aS rfl (ax rfl rfl)) (fQ B.fy l o)) a6)) r)))))))
def QT{n s d a c:Nat}{m i m1 m2:Int}{g x y z j:Str}{p q R:Tm}{es b:List (Str×V)}{U e ae ao b9:H}(S:Self U s a m)(k:av P sc (n+1) 26 [.ref s] U=.ok (.str y) e)(l:Self e s a i)(o:av P sc (n+1) 26 [.ref s] e=.ok (.str z) ae)(r:Self ae s a m1)(t:ae[d]?=some (.az es))(u:es.length<=aJ)(v:av P sc (n+1) 28 [.ref s,p.ag,.ref ae.length] (ae++[.az (bp es x (.str z))])=.ok R.ag ao)(w:Self ao s a m2)(f:ao[d]?=some (.az b))(h:b.length<=aJ)(A:av P sc (n+1) 28 [.ref s,q.ag,.ref ao.length] (ao++[.az (bp b g (.str y))])=.aF c b9):
  av P sc (n+2) 28 [.ref s,(Tm.def_ g x j p q).ag,.ref d] U=.aF c b9:=
 iR B (λ_ _ _=>rfl) (jmp 6 ⋯ (eM ⋯ ((bj (dg (aB rfl) S a6 k)).trans ((bj (dg (aB rfl) l a6 o)).trans ((bj (dg (aB rfl) r (ax rfl (ax (aT (aS rfl (ax rfl rfl)) (fQ B.fy t u)) a6)) v)).trans (eo (g7 (uq (gz (aB rfl) (gz (aB rfl) (gz (aB rfl) (gz rfl (gz (aB rfl) (qc (eN (aB rfl) w (ax rfl (ax (aT (aS rfl (ax rfl rfl)) (fQ B.fy f h)) a6)) A)))))))))))))))
@[reducible]def u6:E:=.cQ 28 (.aa 0) {.aa 7,.aa 2}
@[reducible]def yn:SL:=.cons (.ret (.ak .Add (.ay {.aa 3}) (.tuple (.comp u6 7 [2,0] (.slc (.aa 1) (.int 1) .none))))) .nil
omit B in
def qt{n s d a:Nat}{m:Int}{T b v w:V}{U ae:H}(S:Self U s a m)(e:av P sc n 28 [.ref s,b,.ref d] U=.ok v ae):
  M.bind (aj (cx P sc n) u6 (cq (dj [some (.ref s),some T,some (.ref d),some w,none,none,none,none] [2,0]) 7 b)) (λy=>M.pure (some y)) U=.ok (some v) ae:=
 (aN (dg (aB rfl) S rfl e)).trans rfl
omit B in
def uO{n s d a c:Nat}{m:Int}{T b w:V}{U ae:H}(S:Self U s a m)(e:av P sc n 28 [.ref s,b,.ref d] U=.aF c ae):
  M.bind (aj (cx P sc n) u6 (cq (dj [some (.ref s),some T,some (.ref d),some w,none,none,none,none] [2,0]) 7 b)) (λy=>M.pure (some y)) U=.aF c ae:=
 jK (eN (aB rfl) S rfl e)
omit B in
def yo{C:Ctx}{s T d:V}{U:H}:a8 C xR [some s,some T,some d,some (.str "when"),none,none,none,none] U=a8 C yn [some s,some T,some d,some (.str "when"),none,none,none,none] U:=
 jmp 6 ⋯ (cj ⋯)
omit B in
def J4{C:Ctx}{u:U2}{s T d:V}{U:H}:a8 C xR [some s,some T,some d,some (.str u.str),none,none,none,none] U=a8 C yn [some s,some T,some d,some (.str u.str),none,none,none,none] U:=by cases u<;>exact jmp 6 ⋯ (cj ⋯)
omit B in
def SN{C:Ctx}{s d:Nat}{w:Str}{vs us:List V}{U ae:H}(a:vs.length+1<=aJ)(b:us.length+1<=aJ)(h:dG (.fix vs) (λc=>M.bind (aj C u6 (cq (dj [some (.ref s),some (.ay (.str w::vs)),some (.ref d),some (.str w),none,none,none,none] [2,0]) 7 c)) λy=>M.pure (some y)) (vs.length+1) 0 U=.ok us ae):
  a8 C yn [some (.ref s),some (.ay (.str w::vs)),some (.ref d),some (.str w),none,none,none,none] U=.ok (.ret (.ay (.str w::us))) [some (.ref s),some (.ay (.str w::vs)),some (.ref d),some (.str w),none,none,none,none] (ae++[.af us]):=by
 have e:kn (.ref ae.length) (ae++[.af us])=.ok (.ay us) (ae++[.af us]):=by
  show M.bind (bO _) _ _=_;rw[aN (d8 bA),if_pos (bG ())];rfl
 have f:aj C (.slc (.aa 1) (.int 1) .none) [some (.ref s),some (.ay (.str w::vs)),some (.ref d),some (.str w),none,none,none,none] U=.ok (.ay vs) U:=by
  show(if(V.str w::vs).length<=aJ then _ else _:M V) U=_;rw[if_pos (by rw[List.length_cons];exact a)];rfl
 have g:binop .Add (.ay [.str w]) (.ay us) (ae++[.af us])=.ok (.ay (.str w::us)) (ae++[.af us]):=by
  show(if [V.str w].length+us.length<=aJ then _ else _:M V) _=_;rw[if_pos (by rw[List.length_singleton];exact aM 0x34132104904920534184c rfl b)];rfl
 exact bq (bX (cf rfl ∅) (xg (mf f rfl rfl (bG ()) h) e) g)
omit B in
def tP{C:Ctx}{s d c:Nat}{w:Str}{vs:List V}{U ae:H}(a:vs.length+1<=aJ)(h:dG (.fix vs) (λb=>M.bind (aj C u6 (cq (dj [some (.ref s),some (.ay (.str w::vs)),some (.ref d),some (.str w),none,none,none,none] [2,0]) 7 b)) λy=>M.pure (some y)) (vs.length+1) 0 U=.aF c ae):
  a8 C yn [some (.ref s),some (.ay (.str w::vs)),some (.ref d),some (.str w),none,none,none,none] U=.aF c [some (.ref s),some (.ay (.str w::vs)),some (.ref d),some (.str w),none,none,none,none] ae:=by
 have e:aj C (.slc (.aa 1) (.int 1) .none) [some (.ref s),some (.ay (.str w::vs)),some (.ref d),some (.str w),none,none,none,none] U=.ok (.ay vs) U:=by
  show(if(V.str w::vs).length<=aJ then _ else _:M V) U=_;rw[if_pos (by rw[List.length_cons];exact a)];rfl
 exact eo (g7 (SE (cf rfl ∅) (QC (SM e rfl rfl (bG ()) h))))
def QU{n s d a c:Nat}{b m1:Int}{u:U2}{x y X Y:Tm}{U ae ao gV:H}(e:Self U s a b)(f:av P sc n 28 [.ref s,x.ag,.ref d] U=.aF c gV):av P sc (n+1) 28 [.ref s,(Tm.ak u x y).ag,.ref d] U=.aF c gV:=
 iR B (λ_ _ _=>rfl) (J4.trans (tP ∅ (sT rfl (uO e f))))
def QV{n s d a c:Nat}{b m1:Int}{u:U2}{x y X Y:Tm}{U ae ao gV:H}(e:Self U s a b)(f:av P sc n 28 [.ref s,x.ag,.ref d] U=.ok X.ag ae)(g:Self ae s a m1)(h:av P sc n 28 [.ref s,y.ag,.ref d] ae=.aF c gV):av P sc (n+1) 28 [.ref s,(Tm.ak u x y).ag,.ref d] U=.aF c gV:=
 iR B (λ_ _ _=>rfl) (J4.trans (tP ∅ (vy rfl (qt e f) (sT rfl (uO g h)))))
def SO{n s d a:Nat}{b m1 m2:Int}{x y z X Y Z:Tm}{U ae ao b9 gV:H}(c:Self U s a b)(e:av P sc n 28 [.ref s,x.ag,.ref d] U=.ok X.ag ae)(f:Self ae s a m1)(g:av P sc n 28 [.ref s,y.ag,.ref d] ae=.ok Y.ag ao)(h:Self ao s a m2)(i:av P sc n 28 [.ref s,z.ag,.ref d] ao=.ok Z.ag b9):av P sc (n+1) 28 [.ref s,(Tm.when x y z).ag,.ref d] U=.ok (Tm.when X Y Z).ag (b9++[.af [X.ag,Y.ag,Z.ag]]):=
 mr B (w:="when") (λ_ _ _=>rfl) (yo.trans (SN (vs:=[x.ag,y.ag,z.ag]) (us:=[X.ag,Y.ag,Z.ag]) ∅ ∅ (gF (n:=3) (y:=some X.ag) (r:=[Y.ag,Z.ag]) (ae:=U) rfl (qt c e) (gF (n:=2) (y:=some Y.ag) (r:=[Z.ag]) (ae:=ae) rfl (qt f g) (gF (n:=1) (y:=some Z.ag) (r:=[]) rfl (qt h i) (kM rfl))))))
def Oz{n s d a c:Nat}{b m1 m2:Int}{x y z X Y Z:Tm}{U ae ao b9 gV:H}(e:Self U s a b)(f:av P sc n 28 [.ref s,x.ag,.ref d] U=.aF c gV):av P sc (n+1) 28 [.ref s,(Tm.when x y z).ag,.ref d] U=.aF c gV:=
 iR B (λ_ _ _=>rfl) (yo.trans (tP ∅ (sT rfl (uO e f))))
def OA{n s d a c:Nat}{b m1 m2:Int}{x y z X Y Z:Tm}{U ae ao b9 gV:H}(e:Self U s a b)(f:av P sc n 28 [.ref s,x.ag,.ref d] U=.ok X.ag ae)(g:Self ae s a m1)(h:av P sc n 28 [.ref s,y.ag,.ref d] ae=.aF c gV):av P sc (n+1) 28 [.ref s,(Tm.when x y z).ag,.ref d] U=.aF c gV:=
 iR B (λ_ _ _=>rfl) (yo.trans (tP ∅ (vy rfl (qt e f) (sT rfl (uO g h)))))
def OB{n s d a c:Nat}{b m1 m2:Int}{x y z X Y Z:Tm}{U ae ao b9 gV:H}(e:Self U s a b)(f:av P sc n 28 [.ref s,x.ag,.ref d] U=.ok X.ag ae)(g:Self ae s a m1)(h:av P sc n 28 [.ref s,y.ag,.ref d] ae=.ok Y.ag ao)(i:Self ao s a m2)(j:av P sc n 28 [.ref s,z.ag,.ref d] ao=.aF c gV):av P sc (n+1) 28 [.ref s,(Tm.when x y z).ag,.ref d] U=.aF c gV:=
 iR B (λ_ _ _=>rfl) (yo.trans (tP ∅ (vy rfl (qt e f) (vy rfl (qt g h) (sT rfl (uO i j))))))
end
abbrev gD:Lv->Nat
|.z=>27|.o=>28
def Self.set(S:Self U s a m)(k:Int):Self (U.set a (.dM k)) s a k:=by
 have b:s≠a:=λq=>by obtain⟨c,h⟩:=S.i;(replace h:=(S.n)▸(q▸h));cases h
 exact let #[c,h]:=S.i;#[#[c,qo h (λq=>b q.symm)],gy S.n]
def yN(g:Nat->Bool)(d:g 0=false):∀n,g n=true->∃j,j<n/\(∀i,i<=j->g i=false)/\g (j+1)=true
|0=>λh=>by(replace h:=d▸h);exact ff h
|n+1=>λh=>by
  cases hn:g n with
  |true=>obtain⟨j,e,a,b⟩:=yN g d n hn;exact#[j,by(exact kF ()),a,b]
  |false=>
   by_cases f:∃j,j<n/\(∀i,i<=j->g i=false)/\g (j+1)=true
   ·obtain⟨j,e,a,b⟩:=f;exact#[j,by(exact kF ()),a,b]
   ·refine#[n,by(exact aU _),?_,h];intro i l;cases c:g i with
    |false=>rfl
    |true=>
     have k:i≠n:=λq=>by(replace c:=hn▸(q▸c));exact ff c
     exact ct (yN g d i c) λj e a b=>absurd #[j,by(exact bZ () ()),a,b] f
section
variable{P:Prog}{sc:List Int}
abbrev e8(P:Prog)(sc:List Int)(c a:Nat)(l:Lv)(n:Nat)(t:Tm)(d:Nat)(U:H)(r:Bv×Sg):Prop:=
 (r.2.fl=false/\∃b,av P sc n (gD l) [.ref c,t.ag,.ref d] U=.ok r.1.v b/\Kp a U b/\Self b c a r.2.k)∨(r.2.fl=true/\∃b,av P sc n (gD l) [.ref c,t.ag,.ref d] U=.aF 7 b/\Kp a U b)
def e8.elim{c a:Nat}{l:Lv}{n:Nat}{t:Tm}{d:Nat}{U:H}{r:Bv×Sg}{X:Prop}(h:e8 P sc c a l n t d U r)(ok:r.2.fl=false->∀b,av P sc n (gD l) [.ref c,t.ag,.ref d] U=.ok r.1.v b->Kp a U b->Self b c a r.2.k->X)(g:r.2.fl=true->∀b,av P sc n (gD l) [.ref c,t.ag,.ref d] U=.aF 7 b->Kp a U b->X):X:=Or.elim h (λ#[f,b,e,k,S]=>ok f b e k S) λ#[f,b,e,k]=>g f b e k
abbrev qD(P:Prog)(sc:List Int)(b a:Nat)(l:Lv)(N:Nat)(t:Tm)(d:Nat)(U:H)(r:Bv×Sg):Prop:=(∃m,Self U b a m)/\(r.2.c<=5000->∀n,N<=n->e8 P sc b a l n t d U r)
abbrev Cg(b a:Nat)(U:H)(s:Sg):Prop:=s.fl=false/\s.c<=5000/\Self U b a s.k
def xk(h:Cg sf a U s)(e:∀k,av P sc (k+1) (gD l) [.ref sf,t.ag,.ref d] U=.ok b.v U):qD P sc sf a l 1 t d U (b,s):=
 #[#[_,h.2.2],λ_ n c=>by obtain⟨k,rfl⟩:=gU c;exact .inl #[h.1,U,e k,.refl _,h.2.2]]
def Gh:∀(n:Nat),(∀j,j<n->∃w,(dm f j r0).2.le w (dm f (j+1) r0).2)->∀j,j<=n->∃w,(dm f j r0).2.le w (dm f n r0).2
|0,_,j,a=>#[0,Nat.le_zero.mp a▸.refl _]
|n+1,h,j,a=>by
  by_cases b:j=n+1
  ·(clear a;subst b);exact#[0,.refl _]
  ·refine cb (Gh n (λi g=>h i (kF ())) j (Nat.le_of_lt_succ (Nat.lt_of_le_of_ne a b))) λw c=>?_;obtain⟨d,e⟩:=h n (aU _);exact#[w+d,c.trans e (bk _)]
def T1{b a:Nat}{l c:Lv}{N:Nat}{t t':Tm}{d:Nat}{U:H}{r e:Bv×Sg}(h:qD P sc b a l N t d U r)(i:e.2=r.2)(ok:∀n m ae,Self U b a m->av P sc n (gD l) [.ref b,t.ag,.ref d] U=.ok r.1.v ae->av P sc (n+1) (gD c) [.ref b,t'.ag,.ref d] U=.ok e.1.v ae)(x:∀n m ae,Self U b a m->av P sc n (gD l) [.ref b,t.ag,.ref d] U=.aF 7 ae->av P sc (n+1) (gD c) [.ref b,t'.ag,.ref d] U=.aF 7 ae):qD P sc b a c (N+1) t' d U e:=#[h.1,λg n o=>by
 refine cb (h.1) λm S=>?_;obtain⟨k,rfl⟩:=gU (dz ());unfold e8;rw[i] at g ⊢;refine e8.elim (h.2 g k (cE ())) (λf1 ae f k1 j=>?_) λf1 ae f k1=>?_
 ·exact .inl #[f1,ae,ok k m ae S f,k1,j]
 ·exact .inr #[f1,ae,x k m ae S f,k1]]
def T2{e a:Nat}{l h l2:Lv}{N:Nat}{t t' b:Tm}{d:Nat}{U g:H}{u:Bv}{s1:Sg}{r o:Bv×Sg}{w:Int}(D:H->Nat)(E:H->H){m:Int}(S:Self U e a m)(k0:Kp a U g)(y:qD P sc e a l N t d g (u,s1))(z:∀ae,Kp a U ae->Cg e a ae s1->qD P sc e a l2 N b (D ae) (E ae) r)(x:∀ae,Kp a ae (E ae))(I:1<=N)(f:s1.le w r.2)(A:o.2=r.2)(ok:∀n m1 ae ao,Kp a U ae->av P sc (n+1) (gD l) [.ref e,t.ag,.ref d] g=.ok u.v ae->Self ae e a m1->av P sc (n+1) (gD l2) [.ref e,b.ag,.ref (D ae)] (E ae)=.ok r.1.v ao->av P sc (n+2) (gD h) [.ref e,t'.ag,.ref d] U=.ok o.1.v ao)(B:∀n ae,av P sc (n+1) (gD l) [.ref e,t.ag,.ref d] g=.aF 7 ae->av P sc (n+2) (gD h) [.ref e,t'.ag,.ref d] U=.aF 7 ae)(C:∀n m1 ae ao,Kp a U ae->av P sc (n+1) (gD l) [.ref e,t.ag,.ref d] g=.ok u.v ae->Self ae e a m1->av P sc (n+1) (gD l2) [.ref e,b.ag,.ref (D ae)] (E ae)=.aF 7 ao->av P sc (n+2) (gD h) [.ref e,t'.ag,.ref d] U=.aF 7 ao):qD P sc e a h (N+2) t' d U o:=#[#[m,S],λi n J=>by
 refine cb (lK (dz ())) λk F=>?_;subst F;unfold e8;rw[A] at i ⊢;refine e8.elim (y.2 (di f.c i) (k+1) (cE (bG ()))) (λf1 ae j k1 p=>?_) λf1 ae j k1=>?_
 ·have k1:=k0.trans k1;refine e8.elim ((z ae k1 #[f1,di f.c i,p]).2 i (k+1) (cE (bG ()))) (λf2 ao q s G=>?_) λf2 ao q s=>?_
  ·exact .inl #[f2,ao,ok k _ ae ao k1 j p q,(k1.trans (x ae)).trans s,G]
  ·exact .inr #[f2,ao,C k _ ae ao k1 j p q,(k1.trans (x ae)).trans s]
 ·exact .inr #[f.fl f1,ae,B k ae j,k0.trans k1]]
def M0(B:oX P)(Q a:Nat):qr a (Cg Q a) (λ_ v x b d=>v=.ay [.str x,b.ag,.ref d]) (qD P sc Q a) where
 app h:=#[h.1,h.2.1,h.2.2.add]
 ne h:=λq=>by have:=h.2.2.n;(replace this:=(Eq.symm (q))▸this);simp at this
 xD:=λ_ h=>h
 more h hN:=#[h.1,λD n L=>h.2 D n (bZ hN L)]
 Bo h:=xk h λk=>HO B _
 Bp h:=xk h λk=>TP B _
 AS h hd R:=xk h λk=>GR B hd R
 AU h hd R:=xk h λk=>RX B hd R
 hole hN h:=T1 h rfl (λ_ _ _ S e=>RY B S e) (λ_ _ _ S e=>QN B S e)
 lift hN h:=T1 h rfl (λ_ _ _ S e=>SG B S e) (λ_ _ _ S e=>QG B S e)
 Ap h D:=absurd h.2.1 (Int.not_le.mpr D)
 bK {U d N t p s s1} h D h1 hle hp:=#[h1.1,λD n L=>by
  refine cb (h1.1) λm S=>cb (uN (n:=n) (~~~bD 0xc8c124124124814e06334530184e rfl hp L)) λk bh=>?_;subst bh;have T:s1.c<=5000:=by
   unfold iP at D
   split at D
   ·have D:s1.c+p.size<=5000:=D;exact cS Ep rfl D (gg _)
   ·have D:s1.c+p.size<=5000:=D;exact cS Ep rfl D (gg _)
  refine e8.elim (h1.2 T (k+2) (cE ())) (λf1 ae l k1 C=>?_) λf1 ae l k1=>?_
  ·unfold iP
   by_cases hb:2000<p.size∨30<p.depth
   ·exact(if_pos hb)▸cb (QQ (sc:=sc) B (n:=k) (U:=ae) hb (~~~bD Er rfl hp L)) λτ A=>.inr #[rfl,_,MW B S l A,k1.trans .add]
   ·exact(if_neg hb)▸cb (Qk (sc:=sc) B (n:=k) S l (Nat.not_lt.mp λq=>hb (.inl q)) (Nat.not_lt.mp λq=>hb (.inr q)) (~~~bD Er rfl hp L)) λτ A=>.inl #[f1,_,A,k1.trans .add,C.add]
  ·unfold iP
   split
   ·exact .inr #[rfl,ae,D9 B S l,k1]
   ·exact .inr #[f1,ae,D9 B S l,k1]]
 run {U d N t p s1} h1 hP hd hf hN:=#[h1.1,λD n L=>by
  refine cb (h1.1) λm S=>?_;obtain⟨k,rfl⟩:=lK (n:=n) (dz ());have hp:0<=p.eO:=by have:=E3 hP (λ_=>0) λ_=>bk _;unfold Tm.eO;(exact Int.le_of_lt ())
  unfold lG at D ⊢
  by_cases hb:5000<s1.c+p.eO
  ·replace D:=(if_pos hb)▸D;exact absurd (show s1.c+p.eO<=5000 from D) (Int.not_le.mpr hb)
  ·refine(if_neg hb)▸e8.elim (h1.2 (show s1.c<=5000 by exact cS 0x81ce1e130124124124814d80520738784134c rfl hp (Int.not_lt.mp hb)) (k+1) (cE (bG ()))) (λf1 ae l k1 C=>?_) λf1 ae l k1=>?_
   ·have R:=(GY (MT (sc:=sc) B (s:=Q) (a:=a) (m:=s1.k)) hP (~~~ff) (λ_=>0) (ae++[O.az []]) ae.length [] (λ_=>.no) C.add bA (by show 0+p.depth<=aJ;have:aJ=1000000:=rfl;exact aM tG rfl hd this) (λx m hx=>~~~bR hx)).2;obtain⟨fB,e3⟩:=R (k+1) (~~~bD Ei rfl hf hN L);exact .inl #[f1,_,TN (m1:=0) B S l e3,(k1.trans .add).trans .add,C.add.add]
   ·exact .inr #[f1,ae,SJ B S l,k1]]
 Bq {U d N g t x body d' es es' cv u s1 r w} bF hd hg hcl hd1 hd' hl hN h1 h2 hle:=by
  subst hcl;obtain⟨m,S⟩:=h1.1;exact T2 (l2:=.z) (b:=body) (r:=r) (λae=>ae.length) (λae=>ae++[O.az (bp es' x (Bv.v u))]) S (.refl _) h1 h2 (λ_=>.add) hN hle rfl (λ_ _ _ _ k1 l C A=>HS B S l C (k1.get bF hd) hg (k1.get hd1 hd') hl A) (λ_ _ l=>QL B S l) (λ_ _ _ _ k1 l C A=>QM B S l C (k1.get bF hd) hg (k1.get hd1 hd') hl A)
 Br hd hg hN h:=T1 h rfl (λ_ _ _ S e=>TQ B S hd hg e) (λ_ _ _ S e=>SK B S hd hg e)
 Bs {U d N o x y i j s1 s2 w} hN hi h1 h2 hle:=by
  obtain⟨m,S⟩:=h1.1;exact T2 (l2:=.z) (b:=y) (r:=(.num j,s2)) (λ_=>d) (λae=>ae) S (.refl _) h1 h2 (λ_=>.refl _) hN hle rfl (λ_ _ _ _ _ l C A=>HP B S l C A hi) (λ_ _ l=>QH B S l) (λ_ _ _ _ _ l C A=>QI B S l C A)
 Bt hN h1 h2 hle:=#[h1.1,λD n L=>by
  refine cb (h1.1) λm S=>?_;obtain⟨k,rfl⟩:=gU (n:=n) (dz ());refine e8.elim (h1.2 (di hle.c D) k (cE ())) (λf1 ae l k1 C=>?_) λf1 ae l k1=>?_
  ·refine e8.elim ((h2 ae k1 #[f1,di hle.c D,C]).2 D k (cE ())) (λf2 ao A G J=>?_) λf2 ao A G=>?_
   ·exact .inl #[f2,_,TT B S l C A,(k1.trans G).trans .add,J.add]
   ·exact .inr #[f2,ao,QV (Y:=.num 0) (ao:=[]) B S l C A,k1.trans G]
  ·exact .inr #[hle.fl f1,ae,QU (X:=.num 0) (Y:=.num 0) (ae:=[]) (ao:=[]) (m1:=0) B S l,k1]]
 AV {U d N x y z i s1 r w} hN h1 h2 hle:=by
  obtain⟨m,S⟩:=h1.1;exact T2 (l2:=.z) (b:=if i=0 then z else y) (r:=r) (λ_=>d) (λae=>ae) S (.refl _) h1 h2 (λ_=>.refl _) hN hle rfl (λ_ _ _ _ _ l C A=>GS B S l C A) (λ_ _ l=>Ox B S l) (λ_ _ _ _ _ l C A=>Oy B S l C A)
 AW hN h1 h2 hle h3 hle':=#[h1.1,λD n L=>by
  refine cb (h1.1) λm S=>?_;obtain⟨k,rfl⟩:=gU (n:=n) (dz ());have hc2:=di hle'.c D;have T:=di hle.c hc2;refine e8.elim (h1.2 T k (cE ())) (λf1 ae l k1 C=>?_) λf1 ae l k1=>?_
  ·refine e8.elim ((h2 ae k1 #[f1,T,C]).2 hc2 k (cE ())) (λf2 ao A G J=>?_) λf2 ao A G=>?_
   ·refine e8.elim ((h3 ao (k1.trans G) #[f2,hc2,J]).2 D k (cE ())) (λf3 b9 e3 k3 S3=>?_) λf3 b9 e3 k3=>?_
    ·exact .inl #[f3,_,SO (gV:=[]) B S l C A J e3,((k1.trans G).trans k3).trans .add,S3.add]
    ·exact .inr #[f3,b9,OB (Z:=.num 0) (b9:=[]) B S l C A J e3,(k1.trans G).trans k3]
   ·exact .inr #[hle'.fl f2,ao,OA (Y:=.num 0) (Z:=.num 0) (ao:=[]) (b9:=[]) (m2:=0) B S l C A,k1.trans G]
  ·exact .inr #[hle'.fl (hle.fl f1),ae,Oz (X:=.num 0) (Y:=.num 0) (Z:=.num 0) (ae:=[]) (ao:=[]) (b9:=[]) (m1:=0) (m2:=0) B S l,k1]]
 Bu {U d N x t b u s1 r es w} bF hd hl hN h1 h2 hle:=by
  obtain⟨m,S⟩:=h1.1;exact T2 (l2:=.z) (b:=b) (r:=r) (λae=>ae.length) (λae=>ae++[O.az (bp es x (Bv.v u))]) S (.refl _) h1 h2 (λ_=>.add) hN hle rfl (λ_ _ _ _ k1 l C A=>HQ B S l C (k1.get bF hd) hl A) (λ_ _ l=>QJ B S l) (λ_ _ _ _ k1 l C A=>QK B S l C (k1.get bF hd) hl A)
 Bw {U d N x t b p q s s1 s2 es w} h h0 hk bF hd hl hN h1 h2 hle:=by
  have S:=h.2.2;have I:=S.set (s.k+1);exact T2 (l2:=.o) (b:=b) (r:=(.pc q,s2)) (λae=>ae.length) (λae=>ae++[O.az (bp es x (.str (vn (s.k+1))))]) S .set (h1 _ .set #[h.1,h.2.1,I]) h2 (λ_=>.add) hN hle rfl (λ_ _ _ _ k1 l C A=>TR B S (nR B S h0 hk) I l C (k1.get bF hd) hl A) (λ_ _ l=>QO B S (nR B S h0 hk) I l) (λ_ _ _ _ k1 l C A=>QP B S (nR B S h0 hk) I l C (k1.get bF hd) hl A)
 Aq {U d N n x t b p q s s1 s2 es w} h h0 hk bF hd hl hN h1 h2 hle:=by
  have S:=h.2.2;have I:=S.set (s.k+1);exact T2 (l2:=.o) (b:=b) (r:=(.pc q,s2)) (λae=>ae.length) (λae=>ae++[O.az (bp es x (.str (vn (s.k+1))))]) S .set (h1 _ .set #[h.1,h.2.1,I]) h2 (λ_=>.add) hN hle rfl (λ_ _ _ _ k1 l C A=>Ql B S (nR B S h0 hk) I l C (k1.get bF hd) hl A) (λ_ _ l=>MX B S (nR B S h0 hk) I l) (λ_ _ _ _ k1 l C A=>MY B S (nR B S h0 hk) I l C (k1.get bF hd) hl A)
 Ar {U d N m x t b r0 es f} hm bF hd hl hN h1 h2 hle:=#[h1.1,λD n L=>by
  refine cb (h1.1) λm0 S=>?_;obtain⟨k,rfl⟩:=lK (n:=n) (dz ());have mono:=Gh m.toNat hle;have Ch:∀j,j<=m.toNat->(dm f j r0).2.c<=5000:=λj K=>by obtain⟨w,q⟩:=mono j K;exact di q.c D
  have Jc:∀j,j<=m.toNat->(dm f j r0).2.fl=true->(dm f m.toNat r0).2.fl=true:=λj K=>by obtain⟨w,q⟩:=mono j K;exact q.fl
  refine e8.elim (h1.2 (Ch 0 (gp _)) (k+1) (cE (bG ()))) (λf1 ae l k1 C=>?_) λf1 ae l k1=>?_
  ·have step:∀j F,j<m.toNat->(dm f j r0).2.fl=false->Kp a U F->Self F Q a (dm f j r0).2.k->e8 P sc Q a .z (k+1) b F.length (F++[.az (bp es x (dm f j r0).1.v)]) (dm f (j+1) r0):=
    λj F K hf kj Sj=>(h2 j F K kj #[hf,Ch j (bG ()),Sj]).2 (Ch (j+1) ()) (k+1) (cE (bG ()))
   have good:∀j v F,j<m.toNat->(dm f j r0).2.fl=false->(dm f (j+1) r0).2.fl=false->(v=(dm f j r0).1.v/\Kp a U F/\Self F Q a (dm f j r0).2.k)->(∃m',Self F Q a m')/\∃es,F[d]?=some (.az es)/\es.length<=aJ/\∃v' da,av P sc (k+1) 27 [.ref Q,b.ag,.ref F.length] (F++[.az (bp es x v)])=.ok v' da/\(v'=(dm f (j+1) r0).1.v/\Kp a U da/\Self da Q a (dm f (j+1) r0).2.k):=by
    intro j v F K hf hf' #[R,kj,Sj];subst R;refine#[#[_,Sj],es,kj.get bF hd,hl,?_];refine e8.elim (step j F K hf kj Sj) (λf2 ao A G J=>?_) λf2 _ _ _=>?_
    ·exact#[_,ao,A,rfl,(kj.trans .add).trans G,J]
    ·(replace f2:=hf'▸f2);exact ff f2
   cases hF:(dm f m.toNat r0).2.fl with
   |false=>
    have hall:∀j,j<=m.toNat->(dm f j r0).2.fl=false:=λj K=>by
     cases hx:(dm f j r0).2.fl with
     |false=>rfl
     |true=>(replace hF:=(Jc j K hx)▸hF);exact tf hF
    refine fY (F5 B (sc:=sc) (n:=k) (d:=d) (x:=x) (q:=b) (k:=m) S #[hm.1,~~~bw tD rfl hm.2] l (λj v F=>v=(dm f j r0).1.v/\Kp a U F/\Self F Q a (dm f j r0).2.k) #[rfl,k1,C] (λj v F K hI=>good j v F K (hall j (bG ())) (hall (j+1) ()) hI)) λv ao A R G J=>?_;replace A:=R▸A;exact .inl #[hF,ao,A,G,J]
   |true=>
    refine ct (yN (λj=>(dm f j r0).2.fl) f1 m.toNat hF) λj0 hj0 Bz BA=>?_
    obtain⟨ao,A,G⟩:=MZ B (sc:=sc) (n:=k) (d:=d) (x:=x) (q:=b) (k:=m) (c:=7) S #[hm.1,~~~bw tD rfl hm.2] l j0 hj0 (λj v F=>v=(dm f j r0).1.v/\Kp a U F/\Self F Q a (dm f j r0).2.k) (Kp a U) #[rfl,k1,C] (λj v F K hI=>good j v F (~~~bD 0xd06130124124124814d06138538184c rfl hj0 K) (Bz j (bG ())) (Bz (j+1) ()) hI) (λv F #[R,kj,Sj]=>by
     subst R;refine#[#[_,Sj],es,kj.get bF hd,hl,?_];refine e8.elim (step j0 F hj0 (Bz j0 (aU _)) kj Sj) (λf2 _ _ _ _=>?_) λf2 ao A G=>?_
     ·have BA:(dm f (j0+1) r0).2.fl=true:=BA;(replace f2:=BA▸f2);exact tf f2
     ·exact#[ao,A,(kj.trans .add).trans G])
    exact .inr #[hF,ao,A,G]
  ·exact .inr #[Jc 0 (gp _) f1,ae,MV B S l,k1]]
 Bx {U d N g x kd t b s r es} h bF hd hl hN h1:=#[#[_,h.2.2],λD n L=>by
  refine cb (lK (dz ())) λk bh=>?_;subst bh;have S:=h.2.2;refine e8.elim ((h1 U (.ay [.str x,t.ag,.ref d]) (.refl _) h rfl).2 D (k+1) (cE (bG ()))) (λf2 ao A G J=>?_) λf2 ao A G=>?_
  ·exact .inl #[f2,ao,HR B S hd hl A,Kp.add.trans G,J]
  ·exact .inr #[f2,ao,SH B S hd hl A,Kp.add.trans G]]
 By {U d N g x t b p q s s1 s2 es w} h h0 hk bF hd hl hN h1 h2 hle:=#[#[_,h.2.2],λD n L=>by
  refine cb (lK (dz ())) λk bh=>?_;subst bh;have S:=h.2.2;have e0:=nR (sc:=sc) B (n:=k) S h0 (Int.le_of_lt ());have I:=S.set (s.k+1);have kJ:=nR (sc:=sc) B (n:=k) I (~~~bw jH rfl h0) hk;have yp:=I.set (s.k+1+1);have k0:Kp a U ((U.set a (.dM (s.k+1))).set a (.dM (s.k+1+1))):=Kp.set.trans .set;refine e8.elim ((h1 _ k0 #[h.1,h.2.1,yp]).2 (di hle.c D) (k+1) (cE (bG ()))) (λf1 ae l k1 C=>?_) λf1 ae l k1=>?_
  ·have k1:=(k0.trans .add).trans k1;refine e8.elim ((h2 ae k1 #[f1,di hle.c D,C]).2 D (k+1) (cE (bG ()))) (λf2 ao A G J=>?_) λf2 ao A G=>?_
   ·exact .inl #[f2,ao,TS B S e0 I kJ yp (k0.get bF hd) hl l C (k1.get bF hd) hl A,(k1.trans .add).trans G,J]
   ·exact .inr #[f2,ao,QT B S e0 I kJ yp (k0.get bF hd) hl l C (k1.get bF hd) hl A,(k1.trans .add).trans G]
  ·exact .inr #[hle.fl f1,ae,QS B S e0 I kJ yp (k0.get bF hd) hl l,(k0.trans .add).trans k1]]
end
def HG.to(g:Gr G)(h:HG d Γ l f t k):G d Γ l f t k:=by
 induction h with
|num=>exact g.num
|name h=>exact g.name h
|kB h=>exact g.kB h
|la h=>exact g.la h
|lb=>exact g.lb
|lp=>exact g.lp
|when _ _ _ a b c=>exact g.when a b c
|use h _ i=>exact g.use h i
|aY _ _ a b=>exact g.aY a b
|bg h _ _ a b=>exact g.bg h a b
|def_ h _ _ a b=>exact g.def_ h a b
|bK _ i=>exact g.bK i
|hole _ i=>exact g.hole i
|lift _ i=>exact g.lift i
|run _ i=>exact g.run i
|ak _ _ a b=>exact g.ak a b
|kept _ _ a b=>exact g.kept a b
|twice _ _ _ a b c=>exact g.twice a b c
abbrev Ks(U a:H):Prop:=∀(i:Nat)(o:O),U[i]?=some o->a[i]?=some o
def Ks.add:Ks U (U++τ):=λ_ _ h=>old h
def Ks.trans(h:Ks U ah)(a:Ks ah da):Ks U da:=λi o q=>a i o (h i o q)
def Kp.ks(h:Kp a U ah)(τ:H)(e:∃J,U=τ++J)(b:τ.length<=a):Ks τ ah:=λi o q=>by
 obtain⟨J,rfl⟩:=e;have:i<τ.length:=(List.getElem?_eq_some_iff.mp q).1;exact h.get (Nat.ne_of_lt (Nat.lt_of_lt_of_le this b)) (old q)
structure lR(P:Prog):Prop extends so P HG,oX P,Kinds P,nC P where
 f6:P.fns 6=some vj
 Ci:P.fns 53=some GI
 J5:P.fns 63=some Dl
 f64:P.fns 64=some Cz
 J6:P.fns 65=some yJ
 Cj:P.fns 66=some CL
 J7:P.fns 67=some tn
abbrev sJ:Sg:=#[0,false,0]
abbrev fin(t:Tm):Bv×Sg:=sd t (λ_=>.no) .z sJ
def H9(h:d<=5):0+W d 0<=K0:=by
 have:∀d:Fin 6,0+W d.val 0<=K0:=by decide+kernel
 exact this #[d,by(exact Nat.succ_le_succ ())]
def SQ(h:d<=5):fb true d 0<=514:=by
 have:∀d:Fin 6,fb true d.val 0<=514:=by decide+kernel
 exact this #[d,by(exact Nat.succ_le_succ ())]
section
variable{st:Nat}{aE:H->Sg->Prop}{bf:H->V->Str->Tm->Nat->Prop}{Out:Lv->Nat->Tm->Nat->H->Bv×Sg->Prop}
def SS(K:qr st aE bf Out)(h:HG d [] .z true t k)(a:d<=5)(c:aE U sJ)(b:dd≠st)(f:U[dd]?=some (.az [])):Out .z 514 t dd U (fin t):=
 K.more (stage K h false 0 0 (bk _) (λq=>by cases q) (λ_ g i k q=>~~~bR q) a (λ_=>.no) (λ_=>none) sJ U dd [] (λ_=>rfl) (λx e q=>~~~bR q) (bk _) (λy m q=>~~~bR q) (H9 a) c b f (by show 0+(8*d+8)<=aJ;have:aJ=1000000:=rfl;exact aM 0xd041a04328801241240248248165306007247d078cd rfl a this) (λx e q=>~~~bR q)) (SQ a)
end
def top(h:HG d [] .z true t k)(a:d<=5):ie (λ_=>none) k (fin t).1/\(fin t).2.k<=K0:=by have e:=good h false 0 (bk _) (λ_ g b k q=>~~~bR q) a (λ_=>Sv.no) (λ_=>none) sJ (λx e q=>~~~bR q) (bk _) (λy m q=>~~~bR q);exact#[e.1.ok,di e.2.w (H9 a)]
structure Pg(t:Tm)(k:Kd):Prop where
 hk:HK [] .z true t k
 dp:t.depth<=40
 cs:CS (o7 []) t
 st:∀{st:Nat}{aE:H->Sg->Prop}{bf:H->V->Str->Tm->Nat->Prop}{Out:Lv->Nat->Tm->Nat->H->Bv×Sg->Prop},qr st aE bf Out->∀{U:H}{dd:Nat},aE U sJ->dd≠st->U[dd]?=some (.az [])->Out .z 520 t dd U (fin t)
def Pg.of(h:HG d [] .z true t k)(a:d<=5):Pg t k:=#[(h.to IZ).1,by have:=(h.to IZ).2;exact aM 0x281e030124124624816534506210d98c rfl a this,h.cs,λK U f b c e=>K.more (SS K h a b c e) ∅]
section
variable{P:Prog}{sc:List Int}
variable(B:lR P)
include B
def Uk(h:HK [] .z true t k)(b:3*t.depth+3<=n)(c:t.depth<=1000):∃τ,av P sc (n+1) 49 [t.ag] U=.ok (.str k.s) (U++τ):=by have a:(1000000:Nat)<=aJ:=aU _;obtain⟨τ,e⟩:=MI B.toKinds h n b U.length [] (U++[.az []]) bA (λ_=>rfl) (by show 0+t.depth<=aJ;exact aM 0xd04c8012412412481681ef3053401c91f41e3 rfl c a);refine#[[.az []]++τ,?_];rw[cI B.JG rfl,←List.append_assoc];exact(congrArg cp (bq (aT rfl e))).trans rfl
def Jd:aj (cx P sc n) (.glob 1) L U=.ok (.str Kd.ba.s) U:=by (refine rE▸?_);show dD (P.consts 1) U=_;(refine(B.c1)▸?_);rfl
def Ea(h:Pg t .ba)(k:(fin t).2.c<=5000)(f:520<=n)(U:H):
  ((fin t).2.fl=false/\∃b,av P sc (n+1) 53 [t.ag] U=.ok (fin t).1.v b/\Ks U b)∨((fin t).2.fl=true/\∃b,av P sc (n+1) 53 [t.ag] U=.aF 7 b/\Ks U b):=by
 have hk:=h.hk;have g:=h.dp;obtain⟨m,rfl⟩:∃m,n=m+1:=#[n-1,~~~cm (a7 iW rfl) (~~~a7 Es rfl f)];obtain⟨a,i⟩:=Uk (sc:=sc) B (n:=m) (U:=U) hk (~~~aM 0xd06310c8c12412432481681e03050613481e8 rfl g f) (a7 0xa07bcc049049205a0780c rfl g);have l:(U++a++[O.dM 0]++[O.inst 5 (U++a).length]).length=(U++a).length+2:=by simp only[List.length_append,List.length_singleton]
 have j:∀b,Kp (U++a).length (U++a++[.dM 0]++[.inst 5 (U++a).length]++[.az []]) b->Ks U b:=λb q=>Ks.add.trans (q.ks (U++a) #[[.dM 0]++([.inst 5 (U++a).length]++[.az []]),by simp only[List.append_assoc]] (aU _));refine e8.elim ((h.st (M0 (sc:=sc) B.tooX ((U++a).length+1) (U++a).length) (U:=U++a++[.dM 0]++[.inst 5 (U++a).length]++[.az []]) (dd:=(U++a++[O.dM 0]++[O.inst 5 (U++a).length]).length) #[rfl,∅,(yM.add)] (l▸Nat.ne_of_gt (Nat.le_succ _)) bA).2 k (m+1) ()) (λf1 d e k1 o=>?_) λf1 d e k1=>?_
 ·refine .inl #[f1,d,?_,j d k1];rw[cI B.Ci rfl];exact(congrArg cp ((cj (ne_str (aT rfl i) (Jd B))).trans (bq (dg F7 yM rfl e)))).trans rfl
 ·refine .inr #[f1,d,?_,j d k1];rw[cI B.Ci rfl];exact(congrArg cp ((cj (ne_str (aT rfl i) (Jd B))).trans (eo (g7 (eN F7 yM rfl e))))).trans rfl
omit B in
def OC(h:a8 C b L U=.aF c L1 ae):cT C (.hZ b c hb) L U=a8 C hb L1 ae:=by simp only[EB,h,if_true]
end
def Gi:aj C (.az [] .nil) L U=.ok (.ref U.length) (U++[.az []]):=rfl
def M1(h:CS F p):∀c:Str->Int,(∀x,0<=c x)->0<=p.cost c:=by
 induction h with
|num=>exact λ_ _=>by simp only[m7,m8,m9,nc,nf,ng,nh,ni,nj];decide
|name=>exact λ_ _=>by simp only[m7,m8,m9,nc,nf,ng,nh,ni,nj];decide
|un _ i=>intro c h;have:=i c h;simp only[m7,m8,m9,nc,nf,ng,nh,ni,nj];exact bw 0x4180c860049049205320 rfl this
|@use F g a _ _ i=>intro c h;have d:=i c h;have e:=h g;simp only[m7,m8,m9,nc,nf,ng,nh,ni,nj];exact cS 0x134132180124124124814d805320 rfl d e
|ak _ _ i j=>intro c h;have d:=i c h;have e:=j c h;simp only[m7,m8,m9,nc,nf,ng,nh,ni,nj];exact cS Et rfl d e
|when _ _ _ i j k=>intro c h;have d:=i c h;have e:=j c h;have f:=k c h;simp only[m7,m8,m9,nc,nf,ng,nh,ni,nj];exact cD 0x4104180e34c86004904904904920532014d8053a0 rfl d e f
|aY _ _ i j=>intro c h;have d:=i c h;have e:=j c h;simp only[m7,m8,m9,nc,nf,ng,nh,ni,nj];exact cS Et rfl d e
|bg l _ _ i j=>intro c h;have d:=i c h;have e:=Int.mul_nonneg l.1 (j c h);simp only[m7,m8,m9,nc,nf,ng,nh,ni,nj];exact cS 0x134132180124124124814c805360 rfl d e
|@def_ F g x o a b _ _ i j=>intro c h;have m:=i c h;have n:=j (λy=>if g==y then a.cost c else c y) (λy=>by show 0<=if(g==y)=true then a.cost c else c y;split;exact m;exact h y);simp only[m7,m8,m9,nc,nf,ng,nh,ni,nj];exact bw wA rfl n
section
variable{P:Prog}{sc:List Int}(B:lR P)
include B
def M3(h:Pg t k)(z:520<=n)(U:H):
  ∃l e v fl g,av P sc (n+1) 63 [t.ag] U=.ok (.ref l) e/\e[l]?=some (.af [v,.bool fl,.bool g])/\(g=false->(fin t).2.c<=5000/\v=(fin t).1.v/\fl=(fin t).2.fl):=by
 have A:=h.dp;have o:(1000000:Nat)<=aJ:=aU _;obtain⟨m,rfl⟩:∃m,n=m+1:=#[n-1,~~~cm (a7 iW rfl) (a7 Es rfl z)];obtain⟨I,u⟩:=E4 B.tonC h.cs m U.length [] (λ_=>0) (U++[O.az []]) (aM 0xd3012412412481681e03050613481e8 rfl A z) bA (by show 0+t.depth<=aJ;exact aM 0xd04c8012412412481681e03053401c91f41e3 rfl A o) (λg J=>by obtain⟨l,X,k,q⟩:=J;exact bR q);have C:=M1 h.cs (λ_=>0) λ_=>bk _;generalize (t.cost λ_=>0)=j at u C;generalize U++[O.az []]++I=ae at u;have K:j.fdiv 1000=j/1000:=Int.fdiv_eq_ediv_of_nonneg _ ∅;generalize w:j.fdiv 1000*5001=f;have D:∀L:aP,cy L 0=some t.ag->aj (cx P sc (m+1)) (.af {.int 0,.bool false,.ak .Mult (.ak .FloorDiv (.call 40 {.aa 0,.az [] .nil}) (.int 1000)) (.int 5001)}) L U=.ok (.ref ae.length) (ae++[.af [.int 0,.bool false,.int f]]):=λL s=>
  dE (ax rfl (ax rfl (ax (bX (bX (aT (aS s (ax Gi a6)) u) rfl rfl) rfl (by
   refine j4▸?_;show(if small (j.fdiv 1000)||small 5001 then _ else _:M V) ae=_
   rw[show small 5001=true by decide,Bool.or_true,if_pos rfl,w];rfl)) a6))) ∅
 have d:∀(e:H)(L:aP)(c:Int)(i v:V),cy L 1=some (.ref ae.length)->∀a b c',e[ae.length]?=some (.af [a,b,c'])->aj (cx P sc (m+1)) (.aq (.aa 1) (.int 2)) L e=.ok c' e/\aj (cx P sc (m+1)) (.aq (.aa 1) (.int 1)) L e=.ok b e:=λe L c i v s a b c' F=>#[cC (aB s) rfl (dP F rfl ∅ ∅),cC (aB s) rfl (dP F rfl ∅ ∅)];rw[cI B.J5 rfl]
 by_cases x:f=0
 ·clear w;subst x;refine ct ((h.st (Ow (sc:=sc) B.tonC ae.length) (U:=ae++[.af [.int 0,.bool false,.int 0]]++[.az []]) (dd:=(ae++[O.af [.int 0,.bool false,.int 0]]).length) (old bA) (by(refine(List.length_append)▸?_;refine(List.length_singleton)▸?_);exact Nat.succ_ne_self _) bA) (m+1) ()) λy Q Y R=>?_;have G:=d y [some t.ag,some (.ref ae.length),some (fin t).1.v] 0 .none .none rfl _ _ _ R;have p:=d (ae++[.af [.int 0,.bool false,.int 0]]) [some t.ag,some (.ref ae.length),some .none] 0 .none .none rfl _ _ _ bA;refine#[y.length,y++[.af [(fin t).1.v,.bool (fin t).2.fl,.bool (decide (5000<(fin t).2.c))]],(fin t).1.v,(fin t).2.fl,decide (5000<(fin t).2.c),?_,bA,λq=>#[by have:=of_decide_eq_false q;exact bw 0x20738784c04904920520738784c rfl (Int.not_lt.mp this),rfl,rfl]];exact(congrArg cp ((bj (D _ rfl)).trans ((bj rfl).trans ((dt ((jD (cZ p.1 rfl rfl)).trans ((bj (aT (aS rfl (ax Gi rfl)) Q)).trans eU))).trans (bq (dE (aS rfl (ax G.2 (ax (oO G.1 rfl rfl) a6))) ∅)))))).trans rfl
 ·have T:0<=j.fdiv 1000:=K▸Int.ediv_nonneg C ∅;have Z:0<j.fdiv 1000:=Int.lt_iff_le_and_ne.mpr #[T,λq=>x (w▸q▸rfl)];have r:5000<f:=by lia
  have p:=d (ae++[.af [.int 0,.bool false,.int f]]) [some t.ag,some (.ref ae.length),some .none] 0 .none .none rfl _ _ _ bA;refine#[(ae++[O.af [.int 0,.bool false,.int f]]).length,ae++[.af [.int 0,.bool false,.int f]]++[.af [.none,.bool false,.bool true]],.none,false,true,?_,bA,λq=>~~~tf q];exact(congrArg cp ((bj (D _ rfl)).trans ((bj rfl).trans ((cj (cZ p.1 rfl ((xb f 0 _).trans (by(refine(beq_eq_false_iff_ne.mpr x)▸?_;with_reducible rfl))))).trans (bq (dE (aS rfl (ax p.2 (ax (oO p.1 rfl (by show Res.ok (decide ((5000:Int)<f)) _=_;(refine(decide_eq_true r)▸?_;with_reducible rfl))) a6))) ∅)))))).trans rfl
end
abbrev Tm.cl:Tm->Dm->Prop
|.num _,_=>True
|.name x,d=>d x=some .v
|.un _ _,_=>False
|.use g a,d=>d g=some .f/\a.cl d
|.ak _ a b,d=>a.cl d/\b.cl d
|.aY x a b,d=>a.cl d/\d x=none/\b.cl (cV d x .v)
|.bg n x a b,d=>(0<=n/\n<=9)/\a.cl d/\d x=none/\b.cl (cV d x .v)
|.def_ g x e a b,d=>e="number"/\d x=none/\a.cl (cV d x .v)/\d g=none/\b.cl (cV d g .f)
|.when a b c,d=>a.cl d/\b.cl d/\c.cl d
abbrev Tm.bn:Tm->Str->Prop
|.num _,_=>False
|.name _,_=>False
|.un _ a,y=>a.bn y
|.use _ a,y=>a.bn y
|.ak _ a b,y=>a.bn y∨b.bn y
|.aY x a b,y=>x=y∨a.bn y∨b.bn y
|.bg _ x a b,y=>x=y∨a.bn y∨b.bn y
|.def_ g x _ a b,y=>(g=y∨x=y)∨a.bn y∨b.bn y
|.when a b c,y=>a.bn y∨b.bn y∨c.bn y
def nS(h:cV Δ x m y=none):(x==y)=false/\Δ y=none:=by
 unfold cV at h;cases hx:(x==y) with
|true=>(replace h:=hx▸h);exact ez h
|false=>(replace h:=hx▸h);exact#[rfl,h]
def gA:∀(p:Tm)(d:Dm)(y:Str),p.cl d->p.bn y->d y=none
|.num _=>λ_ _ _ h=>h.elim
|.name _=>λ_ _ _ h=>h.elim
|.un _ _=>λ_ _ h=>h.elim
|.use g a=>λd y h=>gA a d y h.2
|.ak _ a b=>λd y h q=>q.elim (gA a d y h.1) (gA b d y h.2)
|.aY x a b=>λd y h q=>by
  rcases q with rfl|q|q
  ·exact h.2.1
  ·exact gA a d y h.1 q
  ·exact(nS (gA b _ y h.2.2 q)).2
|.bg _ x a b=>λd y h q=>by
  rcases q with rfl|q|q
  ·exact h.2.2.1
  ·exact gA a d y h.2.1 q
  ·exact(nS (gA b _ y h.2.2.2 q)).2
|.def_ g x _ a b=>λd y h q=>by
  rcases q with (rfl|rfl)|q|q
  ·exact h.2.2.2.1
  ·exact h.2.1
  ·exact(nS (gA a _ y h.2.2.1 q)).2
  ·exact(nS (gA b _ y h.2.2.2.2 q)).2
|.when a b c=>λd y h q=>by
  rcases q with q|q|q
  ·exact gA a d y h.1 q
  ·exact gA b d y h.2.1 q
  ·exact gA c d y h.2.2 q
def vV(h:Δ y=none)(a:(x==y)=false):cV Δ x m y=none:=by unfold cV;(refine a.symm▸?_);exact h
def jf:∀(p:Tm)(e d:Dm),p.cl e->e.le d->(∀y,p.bn y->d y=none)->p.cl d
|.num _=>λ_ _ _ _ _=>trivial
|.name _=>λ_ _ h q _=>q _ _ h
|.un _ _=>λ_ _ h=>h.elim
|.use g a=>λe d h q n=>#[q _ _ h.1,jf a e d h.2 q n]
|.ak _ a b=>λe d h q n=>#[jf a e d h.1 q λy z=>n y (.inl z),jf b e d h.2 q λy z=>n y (.inr z)]
|.aY x a b=>λe d h q n=>#[jf a e d h.1 q λy z=>n y (.inr (.inl z)),n x (.inl rfl),jf b _ _ h.2.2 (q.upd _ _) λy z=>vV (n y (.inr (.inr z))) (nS (gA b _ y h.2.2 z)).1]
|.bg _ x a b=>λe d h q n=>#[h.1,jf a e d h.2.1 q λy z=>n y (.inr (.inl z)),n x (.inl rfl),jf b _ _ h.2.2.2 (q.upd _ _) λy z=>vV (n y (.inr (.inr z))) (nS (gA b _ y h.2.2.2 z)).1]
|.def_ g x _ a b=>λe d h q n=>#[h.1,n x (.inl (.inr rfl)),jf a _ _ h.2.2.1 (q.upd _ _) λy z=>vV (n y (.inr (.inl z))) (nS (gA a _ y h.2.2.1 z)).1,
   n g (.inl (.inl rfl)),jf b _ _ h.2.2.2.2 (q.upd _ _) λy z=>vV (n y (.inr (.inr z))) (nS (gA b _ y h.2.2.2.2 z)).1]
|.when a b c=>λe d h q n=>#[jf a e d h.1 q λy z=>n y (.inl z),jf b e d h.2.1 q λy z=>n y (.inr (.inl z)),jf c e d h.2.2 q λy z=>n y (.inr (.inr z))]
abbrev Tm.bb(p:Tm)(k:Int):Prop:=∀y,p.bn y->∃i:Int,y=vn i/\1<=i/\i<=k
def qu{p:Tm}(h:p.bb k)(hk:k<=k'):p.bb k':=λy q=>let #[i,e,h1,h2]:=h y q;#[i,e,h1,di h2 hk]
structure Ext(Δ:Dm)(k:Int)(bV:Dm)(k':Int):Prop where
 le:Δ.le bV
 kle:k<=k'
 new:∀y m,bV y=some m->Δ y=some m∨∃i:Int,y=vn i/\k<i
def Ext.same(h:k<=k'):Ext Δ k Δ k':=#[.refl _,h,λ_ _ q=>.inl q]
def Ext.trans(h:Ext Δ k bV k')(a:Ext bV k' lH k''):Ext Δ k lH k'':=#[h.le.trans a.le,di h.kle a.kle,λy m q=>by
 rcases a.new y m q with q|⟨i,e,q⟩
 ·exact h.new y m q
 ·exact .inr #[i,e,Int.lt_of_le_of_lt h.kle q]]
def Ext.put(a:Δ (vn j)=none)(b:k<j)(hk:k<=k'):Ext Δ k (cV Δ (vn j) m) k':=#[.new m a,hk,λy m' q=>by
 unfold cV at q;cases hx:(vn j==y) with
|true=>exact .inr #[j,(beq_iff_eq.mp hx).symm,b]
|false=>(replace q:=hx▸q);exact .inl q]
def SU{p:Tm}(h:p.cl Δ)(hb:p.bb k)(x:Ext Δ k bV k')(g:0<=k):p.cl bV:=jf p Δ bV h x.le λy q=>by
 cases e:bV y with
|none=>rfl
|some m=>
  refine ct (hb y q) λi b a c=>?_;rcases x.new y m e with z|⟨j,d,f⟩
  ·(replace z:=(gA p Δ y h q)▸z);exact bR z
  ·have:=GV (~~~bw Eu rfl a) (~~~cD 0x32004904904904920536114e34530184e rfl a c f) (b.symm.trans d);lia
abbrev kL(a:Dm)(k:Int):Kd->Bv->Prop
|.aD,_=>True
|.ba,b=>∃p,b=.pc p/\p.cl a/\p.bb k
def kL.up{a:Kd}(h:kL Δ k a b)(x:Ext Δ k bV k')(d:0<=k):kL bV k' a b:=by
 cases a with
|aD=>trivial
|ba=>obtain⟨p,e,f,c⟩:=h;exact#[p,e,SU f c x d,qu c x.kle]
abbrev J8(b:Dm)(k:Int)(ka c:Kd)(F:Bv->Sg->Bv×Sg):Prop:=∀a u s,Ext b k a s.k->kL a s.k ka u->0<=s.k->Below a s.k->s.k<=(F u s).2.k/\kL a (F u s).2.k c (F u s).1
abbrev nN(a:Dm)(k:Int)(v:Sv):Lv->Mn->Prop
|.z,.val c=>kL a k c v.b
|.z,.fn ka d=>J8 a k ka d v.f
|.o,.val _=>a v.y=some .v
|.o,.fn _ _=>a v.y=some .f
abbrev lS(a:Sc)(b:Str->Sv)(c:Dm)(k:Int):Prop:=∀x e,look a x=some e->nN c k (b x) e.l e.m
def lS.up(h:lS Γ η Δ k)(x:Ext Δ k bV k')(c:0<=k):lS Γ η bV k':=λy e b=>by
 have a:=h y e b;obtain⟨i,d,f⟩:=e;(clear b;cases d)<;>cases f
 ·exact kL.up a x c
 ·exact λg u s q=>a g u s (x.trans q)
 ·exact x.le _ _ a
 ·exact x.le _ _ a
def lS.put(h:lS Γ η Δ k)(b:nN Δ k v l m):lS (Γ++[#[x,l,m]]) (bM η x v) Δ k:=λy e a=>by
 rw[iD] at a;unfold bM;cases hx:(x==y) with
|true=>(replace a:=(if_pos rfl)▸(hx▸a));(refine d7 a λc=>?_;(clear a;subst c));(refine(if_pos rfl).symm▸?_);exact b
|false=>(replace a:=hx▸a);rw[if_neg (by simp)];exact h y e a
abbrev Wn:Lv->Kd->Kd
|.z,k=>k|.o,_=>.ba
abbrev cY(c:Sc)(l:Lv)(t:Tm)(d:Kd):Prop:=∀a b s,lS c a b s.k->0<=s.k->Below b s.k->s.k<=(sd t a l s).2.k/\kL b (sd t a l s).2.k (Wn l d) (sd t a l s).1
def xl:kL Δ k .ba (.pc (.num i)):=#[_,rfl,trivial,λ_ q=>q.elim]
def G4:cY Γ .z (.num i) .aD:=λa b s c d e=>#[bk _,trivial]
def As:cY Γ .o (.num i) k:=λa b s c d e=>#[bk _,xl]
def Gj(h:look Γ x=some #[x,.z,.val k]):cY Γ .z (.name x) k:=λb c s a d e=>#[bk _,a x _ h]
def wO(h:look Γ x=some #[x,.o,.val k']):cY Γ .o (.name x) k:=λb c s a d e=>#[bk _,_,rfl,a x _ h,λ_ q=>q.elim]
def p6(h:cY Γ .o a k):cY Γ .z (.un .bK a) .ba:=λb f s g i j=>by
 have e:sd (.un .bK a) b .z s=if 5000<s.c then(.pc (.num 0),s) else iP (sd a b .o s).1.p (sd a b .o s).2:=rfl
 refine e.symm▸?_
 split
 ·exact#[bk _,xl]
 ·refine bB λr l=>?_;obtain⟨d,p,m,n,q⟩:=h b f s g i j;refine l ((m).symm▸?_);unfold iP
  split
  ·exact#[d,xl]
  ·exact#[d,p,rfl,n,q]
def xm(h:cY Γ .z a .ba):cY Γ .o (.un .hole a) k:=h
def G5(h:cY Γ .z a .aD):cY Γ .z (.un .lift a) .ba:=λb c s d e f=>#[(h b c s d e f).1,xl]
def Ul(h:cY Γ .z a .ba):cY Γ .z (.un .run a) .aD:=λb c s d f g=>by
 have e:sd (.un .run a) b .z s=lG (sd a b .z s).1.p (sd a b .z s).2:=rfl;refine e.symm▸?_;unfold lG
 split<;>exact#[(h b c s d f g).1,trivial]
def SV(j:look Γ g=some #[g,.z,.fn ka k])(l:cY Γ .z a ka):cY Γ .z (.use g a) k:=λc d s e h i=>by
 exact aX (l c d s e h i) λb m=>aX ((e g _ j:J8 d s.k ka k (c g).f) d _ (sd a c .z s).2 (.same b) m (di h b) (i.up b)) λn o=>#[di b n,o]
def SW(d:look Γ g=some #[g,.o,.fn ka k])(f:cY Γ .o a k'):cY Γ .o (.use g a) jq:=λb h s c i j=>by
 refine bB λr l=>?_;obtain⟨m,p,e,n,q⟩:=f b h s c i j;refine l (#[m,.use (b g).y p,?_,#[c g _ d,n],q]);show Bv.pc (.use (b g).y (sd a b .o s).1.p)=_
 (refine e.symm▸?_);rfl
def rT(e:cY Γ l a ka)(c:lS Γ η Δ s.k)(b:0<=s.k)(d:Below Δ s.k):lS Γ η Δ (sd a η l s).2.k/\0<=(sd a η l s).2.k/\Below Δ (sd a η l s).2.k:=
 have q:=(e η Δ s c b d).1
 #[c.up (.same q) b,di b q,d.up q]
def SX(c:cY Γ .z a .aD)(hb:cY Γ .z b .aD):cY Γ .z (.ak o a b) .aD:=λd e s f g h=>by
 exact g8 (rT c f g h) λi j k=>#[di (c d e s f g h).1 (hb d e _ i j k).1,trivial]
def G6(d:cY Γ .o a k)(hb:cY Γ .o b k₁):cY Γ .o (.ak o a b) k':=λc e s f g h=>by
 refine bB λx j=>g8 (rT d f g h) λl m n=>?_;obtain⟨r,p,t,u,v⟩:=d c e s f g h;obtain⟨i,q,w,q1,q2⟩:=hb c e _ l m n;refine j (#[di r i,.ak o p q,?_,#[u,q1],λy z=>z.elim (qu v i y) (q2 y)]);show Bv.pc (.ak o (sd a c .o s).1.p (sd b c .o (sd a c .o s).2).1.p)=_
 (refine t.symm▸?_;refine w.symm▸?_);rfl
def QW(i:cY Γ .z a .aD)(hb:cY Γ .z b k)(t:cY Γ .z c k):cY Γ .z (.when a b c) k:=λd f s j l m=>by
 refine g8 (rT i j l m) λo p q=>?_;have r:=(i d f s j l m).1;have e:sd (.when a b c) d .z s=(if(sd a d .z s).1.n=0 then sd c d .z else sd b d .z) (sd a d .z s).2:=rfl;refine e.symm▸?_
 split
 ·obtain⟨g,h⟩:=t d f _ o p q;exact#[di r g,h]
 ·obtain⟨g,h⟩:=hb d f _ o p q;exact#[di r g,h]
def QX(f:cY Γ .o a ka)(hb:cY Γ .o b k)(t:cY Γ .o c k):cY Γ .o (.when a b c) k':=λd e s g h i=>by
 refine bB λJ u=>g8 (rT f g h i) λj l m=>g8 (rT hb j l m) λv m2 w=>?_;obtain⟨x,p,A,B,C⟩:=f d e s g h i;obtain⟨n,q,D,q1,q2⟩:=hb d e _ j l m;obtain⟨c1,r,F,G,I⟩:=t d e _ v m2 w;refine u (#[di x (di n c1),.when p q r,?_,#[B,q1,G],λy z=>?_])
 ·show Bv.pc (.when (sd a d .o s).1.p (sd b d .o (sd a d .o s).2).1.p (sd c d .o (sd b d .o (sd a d .o s).2).2).1.p)=_
  (refine A.symm▸?_;refine D.symm▸?_;refine F.symm▸?_);rfl
 ·rcases z with z|z|z
  ·exact qu C (di n c1) y z
  ·exact qu q2 c1 y z
  ·exact I y z
def Au(e:cY Γ .z a ka)(hb:cY (Γ++[#[x,.z,.val ka]]) .z b k):cY Γ .z (.aY x a b) k:=λc d s f g h=>by
 exact bB λr i=>g8 (rT e f g h) λj l m=>aX (e c d s f g h) λn o=>aX (hb (bM c x (.val (sd a c .z s).1)) d _ (j.put (show nN d _ (.val (sd a c .z s).1) .z (.val ka) from o)) l m) λp q=>i (#[di n p,q])
def Ia{c:Str->Sv}{d:Dm}{s:Sg}(m:lS Γ c d s.k)(e:0<=s.k)(g:Below d s.k)(n:cY Γ .o a ka)(hb:cY (Γ++[#[x,.o,.val k]]) .o b k'):
  ∃p q,(sd a c .o s.new).1=.pc p/\(sd b (bM c x (.nm (vn (s.k+1)))) .o (sd a c .o s.new).2).1=.pc q/\p.cl d/\d (vn (s.k+1))=none/\q.cl (cV d (vn (s.k+1)) .v)/\
   s.k<=(sd b (bM c x (.nm (vn (s.k+1)))) .o (sd a c .o s.new).2).2.k/\∀y,vn (s.k+1)=y∨p.bn y∨q.bn y->∃i:Int,y=vn i/\1<=i/\i<=(sd b (bM c x (.nm (vn (s.k+1)))) .o (sd a c .o s.new).2).2.k:=by
 have h:s.new.k=s.k+1:=rfl;have k1:s.k<=s.new.k:=cS rA rfl h;have nn:=g.none e (bw wB rfl);refine bB λC r=>?_;obtain⟨f,p,t,u,w⟩:=n c d s.new (m.up (.same k1) e) (cS Ew rfl e k1) (g.up k1);have A:0<=(sd a c .o s.new).2.k:=cD 0x32004904904904920536014e34530e rfl e k1 f;have j:s.k<=(sd a c .o s.new).2.k:=cD vY rfl k1 f;obtain⟨l,q,B,q1,q2⟩:=hb (bM c x (.nm (vn (s.k+1)))) (cV d (vn (s.k+1)) .v) (sd a c .o s.new).2 ((m.up (.put nn (bw wB rfl) j) e).put (show nN _ _ (.nm (vn (s.k+1))) .o (.val k) from kQ)) A ((g.up j).put #[~~~bw mw rfl e,~~~cD 0xd06130124124124818184c38534e rfl h f] _);refine r (#[p,q,t,B,u,nn,q1,~~~cD vY rfl j l,λy z=>?_]);rcases z with z|z|z
 ·exact#[s.k+1,z.symm,~~~bw mw rfl e,~~~kH 0x34184c04904904904920606130e14f38534f rfl h f l]
 ·exact qu w l y z
 ·exact q2 y z
def xn(d:cY Γ .o a ka)(hb:cY (Γ++[#[x,.o,.val k]]) .o b k'){jq:Kd}:cY Γ .o (.aY x a b) jq:=λc l s e f g=>by
 refine Ha (Ia e f g d hb) λp q h i j nn q1 hk hb=>#[hk,.aY (vn (s.k+1)) p q,?_,#[j,nn,q1],hb];show Bv.pc (.aY _ (sd a c .o s.new).1.p (sd b _ .o (sd a c .o s.new).2).1.p)=_
 (refine h.symm▸?_;refine i.symm▸?_);rfl
def OD{n:Int}(d:0<=n/\n<=9)(e:cY Γ .o a ka)(hb:cY (Γ++[#[x,.o,.val k]]) .o b k'){jq:Kd}:cY Γ .o (.bg n x a b) jq:=λc m s f g h=>by
 refine Ha (Ia f g h e hb) λp q i j l nn q1 hk hb=>#[hk,.bg n (vn (s.k+1)) p q,?_,#[d,l,nn,q1],hb];show Bv.pc (.bg n _ (sd a c .o s.new).1.p (sd b _ .o (sd a c .o s.new).2).1.p)=_
 (refine i.symm▸?_;refine j.symm▸?_);rfl
def OF{n:Int}(j:cY Γ .z a k)(hb:cY (Γ++[#[x,.z,.val k]]) .z b k):cY Γ .z (.bg n x a b) k:=λc e s h f i=>by
 have l:∀(m:Nat)(r:Bv×Sg),s.k<=r.2.k->kL e r.2.k k r.1->s.k<=(dm (λv=>sd b (bM c x (.val v)) .z) m r).2.k/\kL e (dm (λv=>sd b (bM c x (.val v)) .z) m r).2.k k (dm (λv=>sd b (bM c x (.val v)) .z) m r).1:=by
  intro m
  induction m with
  |zero=>exact λr d g=>#[d,g]
  |succ m o=>
   intro r d g;exact aX (hb (bM c x (.val r.1)) e r.2 ((h.up (.same d) f).put (show nN e _ (.val r.1) .z (.val k) from g)) (di f d) (i.up d)) λp q=>o _ (di d p) q
 exact aX (j c e s h f i) λt u=>l n.toNat (sd a c .z s) t u
def SY{i:Str}(j:cY (Γ++[#[x,.z,.val ka]]) .z a k)(hb:cY (Γ++[#[g,.z,.fn ka k]]) .z b k'):cY Γ .z (.def_ g x i a b) k':=λc d s e f l=>
 hb (bM c g (.fn λv=>sd a (bM c x (.val v)) .z)) d s (e.put (show nN d _ (.fn λv=>sd a (bM c x (.val v)) .z) .z (.fn ka k) from λh u s' q m n o=>j (bM c x (.val u)) h s' ((e.up q f).put (show nN h _ (.val u) .z (.val ka) from m)) n o)) f l
def SZ{h:Str}(r:h="number")(w:cY (Γ++[#[x,.o,.val ka]]) .o a k₁)(hb:cY (Γ++[#[g,.o,.fn ka k]]) .o b k'):cY Γ .o (.def_ g x h a b) jq:=λd t s u c j=>by
 have f1:=j.none c (bw wB rfl);have f2:=j.none c (bw we rfl);have e:s.new.new.k=s.k+1+1:=rfl;refine bB λG A=>?_;obtain⟨l,p,B,C,D⟩:=w (bM d x (.nm (vn (s.k+1+1)))) (cV t (vn (s.k+1+1)) .v) s.new.new ((u.up (.put f2 (bw we rfl) (cS wh rfl e)) c).put (show nN _ _ (.nm (vn (s.k+1+1))) .o (.val ka) from kQ)) (cS wg rfl c e) ((j.up (cS wh rfl e)).put #[~~~bw wi rfl c,~~~cS 0x34184184c04904920606106130d rfl e] _);have m:s.k<=(sd a (bM d x (.nm (vn (s.k+1+1)))) .o s.new.new).2.k:=cD zv rfl e l;obtain⟨n,q,F,q1,q2⟩:=hb (bM d g (.nm (vn (s.k+1)))) (cV t (vn (s.k+1)) .f) (sd a (bM d x (.nm (vn (s.k+1+1)))) .o s.new.new).2 ((u.up (.put f1 (bw wB rfl) m) c).put (show nN _ _ (.nm (vn (s.k+1))) .o (.fn ka k) from kQ)) (cS Ew rfl c m) ((j.up m).put #[~~~bw mw rfl c,~~~cD 0xd06130124124124818184184c38534e rfl e l] _);refine A (#[show s.k<=(sd b (bM d g (.nm (vn (s.k+1)))) .o (sd a (bM d x (.nm (vn (s.k+1+1)))) .o s.new.new).2).2.k by exact cD vY rfl m n,.def_ (vn (s.k+1)) (vn (s.k+1+1)) h p q,?_,#[r,f2,C,f1,q1],λy z=>?_])
 ·show Bv.pc (.def_ _ _ h (sd a _ .o s.new.new).1.p (sd b _ .o (sd a _ .o s.new.new).2).1.p)=_
  (refine B.symm▸?_;refine F.symm▸?_);rfl
 ·show ∃i:Int,y=vn i/\1<=i/\i<=(sd b (bM d g (.nm (vn (s.k+1)))) .o (sd a (bM d x (.nm (vn (s.k+1+1)))) .o s.new.new).2).2.k;rcases z with (z|z)|z|z
  ·exact#[s.k+1,z.symm,~~~bw mw rfl c,~~~kH 0x34184c04904904904920606106130e14f38534f rfl e l n]
  ·exact#[s.k+1+1,z.symm,~~~bw wi rfl c,~~~kH 0x34184184c04904904904920606106130e14f38534f rfl e l n]
  ·exact qu D n y z
  ·exact q2 y z
def HG.sc(h:HG d m l f t k):cY m l t k:=by
 induction h with
|@num d m l=>cases l;exact G4;exact As
|@name d m l f x k h=>cases l;exact Gj h;exact wO h
|kB h=>exact xm (Gj h)
|la h=>exact p6 (k:=.aD) (wO h)
|lb=>exact p6 (k:=.aD) As
|lp=>exact G5 G4
|@when d m l f a b c k _ _ _ e j o=>cases l;exact QW e j o;exact QX e j o
|@use d m l f g a ka k h _ i=>cases l;exact SV h i;exact SW h i
|@aY d m l f x a b k k' _ _ e j=>cases l;exact Au e j;exact xn e j
|@bg d m l f n x a b k h _ _ e j=>cases l;exact OF e j;exact OD h e j
|@def_ d m l f g x a b ka k k' h _ _ e j=>cases l;exact SY e j;exact SZ (by(refine((h rfl).1).symm▸?_);rfl) e j
|bK _ i=>exact p6 i
|hole _ i=>exact xm i
|lift _ i=>exact G5 i
|run _ i=>exact Ul i
|@ak d m l f w a b _ _ e j=>cases l;exact SX e j;exact G6 e j
|kept _ _ e j=>exact xn e (xm (k:=.aD) (Au (ka:=.ba) (p6 (k:=.aD) (wO (kP _ _))) (p6 j)))
|twice _ _ _ e j o=>exact xn e (xm (k:=.aD) (Au (ka:=.ba) (p6 (k:=.aD) (wO (kP _ _))) (p6 (k:=.aD) (xn (ka:=.aD) (k':=.aD) As (G6 j o)))))
def Wo:∀n:Nat,1<=n->∃c r,Nat.toDigits 10 n=c::r/\c≠'0'/\∀d∈c::r,d.isDigit=true:=by
 intro n
 induction n using Nat.strongRecOn with
|ind n g=>
  intro h
  by_cases q:n<10
  ·rw[Nat.toDigits_of_lt_base q];refine#[_,_,rfl,?_,?_]
   ·have:∀m:Fin 10,1<=m.val->Nat.digitChar m.val≠'0':=by decide
    exact this #[n,q] h
   ·intro d a;exact Nat.isDigit_of_mem_toDigits (b:=10) (n:=n) ∅ ∅ (by rw[Nat.toDigits_of_lt_base q];exact a)
  ·refine dk (g (n/10) (by lia) (by lia)) λc r e i j=>?_;have f:Nat.toDigits 10 n=c::(r++[Nat.digitChar (n % 10)]):=by
    rw[Nat.toDigits_of_base_le ∅ (~~~a7 0x32a04904920532a rfl (Nat.not_lt.mp q)),e];rfl
   exact#[c,_,f,i,λd a=>Nat.isDigit_of_mem_toDigits (b:=10) (n:=n) ∅ ∅ (by rw[f];exact a)]
def G7(h:1<=i):∃c r,(vn i).cps.toList=118::c::r/\c≠48/\∀d∈c::r,48<=d/\d<=57:=by
 refine cb (Int.eq_ofNat_of_zero_le (di ∅ h)) λn b=>?_;subst b;refine dk (Wo n (by lia)) λc r e f g=>?_;have j:(fW (n:Int)).cps.toList=(c::r).map Char.toNat:=by
  show(Str.ofString n.repr).cps.toList=_;rw[Str.ofString_eq_toList,Nat.toList_repr,e]
 refine#[c.toNat,r.map Char.toNat,?_,λq=>f ?_,λd a=>?_]
 ·have:(vn (n:Int)).cps.toList=(Str.ofString "v").cps.toList++(fW (n:Int)).cps.toList:=Array.toList_append;rw[this,j];rfl
 ·exact Char.ext (UInt32.toNat_inj.mp q)
 ·refine aQ (List.mem_map.mp (show d∈(c::r).map Char.toNat from a)) λx k l=>?_;clear a;subst l;have:=g x k;unfold Char.isDigit at this;simp only[Bool.and_eq_true,decide_eq_true_eq] at this;exact#[UInt32.le_iff_toNat_le.mp this.1,UInt32.le_iff_toNat_le.mp this.2]
def G8(d:aj C a L U=.ok x ae)(e:aj C b L ae=.ok y ao)(f:aj C c L ao=.ok z b9)(g:slice x y z b9=.ok v nJ):aj C (.slc a b c) L U=.ok v nJ:=by rw[mc,aN d,aN e,aN f,g]
def S4(a:t∈gw)(s:Str)(U:H):d0 t (.str s) U=.ok (t=="str") U:=by rw[CZ,if_pos a];rfl
def S5(a:t∈gw)(s:List V)(U:H):d0 t (.ay s) U=.ok (t=="tuple") U:=by rw[C0,if_pos a];rfl
def Je(h:aj C a L U=.ok x ae)(c:d0 t x ae=.ok b ae):bQ C (.d0 t a) L U=.ok b ae:=(aN h).trans c
def Gk{f:V->M (Option V)}{vs:List V}{U:H}(h:∀v∈vs,f v U=.ok none U):∀(m k:Nat),k+m=vs.length->dG (.fix vs) f (m+1) k U=.ok [] U
|0=>λk hk=>kM (by rw[qW];show Res.ok vs[k]? U=_;rw[List.getElem?_eq_none (~~~aM rt rfl hk)])
|m+1=>λk hk=>by
  have a:k<vs.length:=bD km rfl hk;exact gF (by rw[qW];show Res.ok vs[k]? U=_;rw[List.getElem?_eq_getElem a]) (h _ (List.getElem_mem a)) (Gk h m (k+1) (cm (bD oc rfl hk) (bD og rfl hk)))
section
variable{P:Prog}{sc:List Int}(B:lR P)
include B
def Lg(g:1<=i)(j:i<10^10)(n:Nat)(U:H):∃τ,av P sc (n+1) 64 [.str (vn i)] U=.ok (.bool true) (U++τ):=by
 refine dk (G7 g) λc r e k h=>?_;have a:(vn i).length<=aJ:=by
  have:=text_len (bw Eu rfl g) j;have e:(vn i).length=(Str.ofString "v").length+(fW i).length:=Array.size_append;exact ej 0xd30124024124124814d04f38604f38c rfl this e
 generalize vn i=x at e a;have l:x.length=r.length+2:=by show x.cps.size=_;rw[←Array.length_toList,e];rfl
 rw[cI B.f64 rfl];refine#[[.af []]++[.af []],?_]
 have o:∀L,cy L 0=some (.str x)->aj (cx P sc n) (.slc (.aa 0) .none (.int 1)) L U=.ok (.str "v") U:=λL b=>G8 (aB b) rfl rfl (by
  rw[DE,e];show(if rM .none (.int 1)/\x.length<=aJ then _ else _:M V) U=_
  rw[if_pos #[rfl,a]];rfl)
 have p:∀L,cy L 0=some (.str x)->aj (cx P sc n) (.slc (.aa 0) (.int 1) .none) L U=.ok (.str #[(c::r).toArray]) U:=λL b=>G8 (aB b) rfl rfl (by
  rw[DE,e];show(if rM (.int 1) .none/\x.length<=aJ then _ else _:M V) U=_
  rw[if_pos #[rfl,a]];rfl)
 have t:∀L,cy L 0=some (.str x)->aj (cx P sc n) (.len (.aa 0)) L U=.ok (.int x.length) U:=λL b=>by
  rw[jA,aN (aB b)];show(if x.length<=aJ then _ else _:M V) U=_;rw[if_pos a];rfl
 have u:∀L,cy L 0=some (.str x)->aj (cx P sc n) (.aq (.aa 0) (.int 1)) L U=.ok (.str #[(List.toArray [c])]) U:=λL b=>cC (aB b) rfl (by
  show M.bind (fc x.cps.toList 1) _ U=_
  rw[e];rfl)
 have w:dh .Eq (.str #[(List.toArray [c])]) (.str "0") U=.ok false U:=by
  rw[lZ];show Res.ok ((#[(List.toArray [c])]:Str)=="0") U=_;rw[beq_eq_false_iff_ne.mpr λq=>k (by have:=congrArg (λs:Str=>s.cps.toList) q;exact(List.cons.inj this).1)]
 have y:dh .Lt (.int x.length) (.int 2) U=.ok false U:=by
  show Res.ok (decide ((x.length:Int)<2)) U=_;rw[decide_eq_false (by lia)]
 have A:srcOf (.str #[(c::r).toArray]) U=.ok (.fix (kZ #[(c::r).toArray])) U:=by
  rw[Me,if_pos (by
   rw[Array.all_eq_true'];intro d q;have:=h d (by simpa using q)
   simp only[decide_eq_true_eq];exact a7 0x788184c049049205e4780c rfl this.2)];rfl
 have C:∀v∈kZ #[(c::r).toArray],∀L:aP,bQ (cx P sc n) (.cmp .NotIn (.aa 1) (.str "0123456789")) [none,some v] U=.ok false U:=λv q L=>by
  refine aQ (List.mem_map.mp q) λd D F=>?_;clear q;subst F;have:=h d D;refine cZ (aB rfl) rfl ?_;rw[sU];have z:gR (.str #[(List.toArray [d])]) (.str "0123456789") U=.ok true U:=by
   show Res.ok (decide (d∈(Str.ofString "0123456789").cps.toList)) U=_;have:∀m:Fin 10,(m.val+48)∈(Str.ofString "0123456789").cps.toList:=by decide
   have:=this #[d-48,by lia];rw[show(#[d-48,by lia]:Fin 10).val+48=d by show d-48+48=d;lia] at this;rw[decide_eq_true this]
  rw[aN z];rfl
 have G:aj (cx P sc n) (.fX (.aa 1) 1 [] (.slc (.aa 0) (.int 1) .none) (.cmp .NotIn (.aa 1) (.str "0123456789"))) [some (.str x),none] U=.ok (.ref U.length) (U++[.af []]):=by
  refine Dn (p _ rfl) A rfl (by unfold kZ;rw[List.length_map];show(c::r).length<=aJ;rw[List.length_cons];exact bD 0xd06130124124024124814d38606230e rfl a l) (Gk (λv q=>?_) _ 0 (cm (a7 jG rfl) (a7 oh rfl)));exact(aN (C v q [])).trans rfl
 have f:dh .Eq (.ref U.length) (.ref (U++[O.af []]).length) (U++[.af []]++[.af []])=.ok true (U++[.af []]++[.af []]):=by
  rw[lZ];show M.bind (bO (.ref U.length)) _ _=_;rw[aN (d8 (old bA))];show M.bind (bO _) _ _=_;rw[aN (d8 bA)];rfl
 refine(congrArg cp ((cj (ic (any_cons (r7 (Je (aB rfl) (S4 ∅ x U))) (λ_=>any_cons (ne_str (o _ rfl) rfl) (λ_=>any_cons (cZ (t _ rfl) rfl y) (λ_=>any_cons (cZ (u _ rfl) rfl w) (λ_=>any_nil) (~~~ff)) (~~~ff)) (~~~ff)) (~~~ff)))).trans
  (bq (oO G (dE a6 ∅) f)))).trans ?_
 rw[List.append_assoc];rfl
end
abbrev jx:List (Str×V):=(["num","name","sum","product","less","when","let"]:List Str).zip [.int 2,.int 2,.int 3,.int 3,.int 3,.int 4,.int 4]
abbrev jy:List (Str×V):=(["turns","def","use"]:List Str).zip [.int 5,.int 6,.int 3]
def L7(b:aj C o L U=.ok (.ref i) ae)(c:ae[i]?=some (.az x'))(d:aj C e L ae=.ok (.ref j) ao)(f:ao[i]?=some (.az x))(g:ao[j]?=some (.az y))(h:x.length+y.length<=aJ/\i≠j):
  cT C (.update o e) L U=.ok .next L (ao.set i (.az (iI x y))):=by
 have k:pQ (.ref i) ae=.ok x' ae:=by
  show M.bind (cH i) _ ae=_;unfold M.bind cH;rw[c];rfl
 have l:wC (.ref i) (.ref j) ao=.ok Unit.unit (ao.set i (.az (iI x y))):=by
  show M.bind (cH i) (λa=>M.bind (cH j) _) ao=_;have m:cH i ao=.ok (.az x) ao:=by unfold cH;rw[f]
  have n:cH j ao=.ok (.az y) ao:=by unfold cH;rw[g]
  rw[aN m,aN n];show(if x.length+y.length<=aJ/\i≠j then _ else _:M Unit) ao=_;rw[if_pos h];rfl
 simp only[OK,Qh.N.bind,Qh.N.lift,b,k,d,l];rfl
def Um(c:aj C a L U=.ok (.ref i) ae)(e:ae[i]?=some (.az es))(f:aj C k L ae=.ok (.str s) ae)(g:aj C d L ae=.ok z ae)(h:dn es s=some v):aj C (.get a k d) L U=.ok v ae:=by
 have b:cH i ae=.ok (.az es) ae:=by unfold cH;rw[e]
 have j:pQ (.ref i) ae=.ok es ae:=by
  show M.bind (cH i) _ ae=_;rw[aN b];rfl
 rw[Nc,aN c,aN j,aN f,aN g];show M.bind (cH i) _ ae=_;rw[aN b];show Res.ok ((dn es s).getD z) ae=_;rw[h];rfl
def ur(h:aj C a L U=.ok (.bool true) ae):aj C (.or {a,b}) L U=.ok (.bool true) ae:=by rw[ma,ED,aN h];rfl
def Un(h:aj C a L U=.ok (.bool false) ae)(c:aj C b L ae=.ok (.bool true) ao):aj C (.or {a,b}) L U=.ok (.bool true) ao:=by rw[ma,ED,aN h,sM,aN (show M.pure false ae=.ok false ae from rfl),if_neg ∅,Ni,aN c];rfl
def S6(d:aj C a L U=.ok x ae)(e:aj C b L ae=.ok y ao)(f:dh op x y ao=.ok true ao)(g:aj C c L ao=.ok z b9)(h:dh op' y z b9=.ok t b9):aj C (.jh op op' a b c) L U=.ok (.bool t) b9:=by rw[M6,aN d,aN e,aN f,if_pos rfl,aN g,aN h];rfl
abbrev Uo:SL:=match yJ.body with
|.cons _ (.cons _ (.cons _ r))=>r
|_=>.nil
section
variable{P:Prog}{sc:List Int}(B:lR P)
include B
def oa{p:Tm}{vs:List V}{w:Str}{m:Nat}{b:Bool}(a:p.ag=.ay vs)(j:vs[0]?=some (.str w))(e:vs.length=m)(k:m<=6)(v:1<=m)(l:dn (iI jx jy) w=some (.int m))(h:∀f,a8 (cx P sc (n+1)) Uo [some p.ag,some (.ref U.length)] f=.ok (.ret (.bool b)) L' f):∃τ,av P sc (n+2) 65 [p.ag] U=.ok (.bool b) (U++τ):=by
 rw[cI B.J6 rfl];refine#[[.az (iI jx jy)]++[.az jy],?_];have q:∀L,aj (cx P sc (n+1)) (.az ["num","name","sum","product","less","when","let"] {.int 2,.int 2,.int 3,.int 3,.int 3,.int 4,.int 4}) L U=.ok (.ref U.length) (U++[.az jx]):=λL=>by rfl'
 have r:∀L,aj (cx P sc (n+1)) (.az ["turns","def","use"] {.int 5,.int 6,.int 3}) L (U++[.az jx])=.ok (.ref (U++[O.az jx]).length) (U++[.az jx]++[.az jy]):=λL=>by rfl'
 have u:=L7 (C:=cx P sc (n+1)) (L:=[some p.ag,some (.ref U.length)]) (o:=.aa 1) (U:=U++[O.az jx]) (aB rfl) bA (r _) (old bA) bA #[∅,by rw[List.length_append];exact Nat.ne_of_lt (Nat.lt_succ_self _)];have s:(U++[O.az jx]++[O.az jy]).set U.length (.az (iI jx jy))=U++[.az (iI jx jy)]++[.az jy]:=by
  rw[List.append_assoc,List.set_append_right _ _ (aU _),Nat.sub_self,List.append_assoc];rfl
 rw[s] at u;have g:(U++[O.az (iI jx jy)]++[O.az jy])[U.length]?=some (.az (iI jx jy)):=old bA;generalize c:(U++[O.az (iI jx jy)]++[O.az jy])=s2 at u g;have t:∀L,cy L 0=some p.ag->aj (cx P sc (n+1)) (.aq (.aa 0) (.int 0)) L s2=.ok (.str w) s2:=λL d=>cC (aB d) rfl (by rw[a];show fc vs 0 s2=_;show dD vs[0]? s2=_;rw[j];rfl);have i:∀L,cy L 0=some p.ag->aj (cx P sc (n+1)) (.len (.aa 0)) L s2=.ok (.int m) s2:=λL d=>by
  rw[jA,aN (aB d),a];show(if vs.length<=aJ then _ else _:M V) s2=_;rw[if_pos (by have:aJ=1000000:=rfl;exact bD 0x34c04904900904900904920638c166386007247d078cd rfl e k this),e];rfl
 refine(congrArg cp ((bj (q _)).trans ((dt u).trans ((cj (ic (any_cons (r7 (Je (aB rfl) (by rw[a];exact S5 ∅ vs s2))) (λ_=>any_cons (cZ (i _ rfl) rfl ((xb _ _ _).trans (by rw[beq_eq_false_iff_ne.mpr (by lia)]))) (λ_=>any_cons (ne_int (Um (aB rfl) g (t _ rfl) rfl l) (i _ rfl)) (λ_=>any_nil) (~~~ff)) (~~~ff)) (~~~ff)))).trans (h s2))))).trans ?_;rw[←List.append_assoc,c];rfl
def tc{p:Tm}{e:Dm}(h:p.cl e)(n:Nat)(U:H):∃τ,av P sc (n+2) 65 [p.ag] U=.ok (.bool true) (U++τ):=by
 cases p with
|un w a=>exact h.elim
|num i=>exact oa B rfl rfl rfl ∅ ∅ rfl λd=>cu ⋯ (bq (aT rfl (Dr B.f6 i n d)))
|name x=>exact oa B rfl rfl rfl ∅ ∅ rfl λd=>jmp 2 ⋯ (bq (ur ⋯))
|use g a=>exact oa B rfl rfl rfl ∅ ∅ rfl λd=>jmp 2 ⋯ (bq (ur ⋯))
|ak w a b=>(clear h;cases w)<;>exact oa B rfl rfl rfl ∅ ∅ rfl λd=>jmp 2 ⋯ (bq (ur ⋯))
|when a b c=>exact oa B rfl rfl rfl ∅ ∅ rfl λd=>jmp 2 ⋯ (bq (ur ⋯))
|aY x a b=>exact oa B rfl rfl rfl ∅ ∅ rfl λd=>jmp 2 ⋯ (bq (ur ⋯))
|bg k x a b=>
  have hk:=h.1;refine oa B rfl rfl rfl ∅ ∅ rfl λd=>jmp 1 ⋯ (cu ⋯ (bq (Og (aT rfl (Dr B.f6 k n d)) ?_)));have c1:dh .LtE (.int 0) (.int k) d=.ok true d:=by show Res.ok (decide ((0:Int)<=k)) d=_;rw[decide_eq_true hk.1]
  have c2:dh .LtE (.int k) (.int 9) d=.ok true d:=by show Res.ok (decide (k<=(9:Int))) d=_;rw[decide_eq_true hk.2]
  exact S6 rfl rfl c1 rfl c2
|def_ g x f a b=>
  have hk:=h.1;clear h;subst hk;exact oa B rfl rfl rfl ∅ ∅ rfl λd=>jmp 2 ⋯ (bq (Un ⋯ ⋯))
end
@[reducible]def Cm:SL:=.cons (.ite (.or {.not (.call 64 {.aa 7}),.cmp .In (.aa 7) (.aa 1),.cmp .In (.aa 7) (.aa 2)}) {.ret (.bool false)} .nil) .nil
@[reducible]def yq:SL:=.cons (.iL 7 (.aq (.aa 4) (.aa 6)) Cm) {.aK 8 (.af {.ak .Add (.aa 1) (.aq (.aa 4) (.aa 6)),.aa 2}),.ite (.and {.cmp .Eq (.aa 3) (.str "def"),.cmp .Eq (.aa 6) (.int 1)}) {.aK 8 (.af {.aa 1,.ak .Add (.aa 2) (.aq (.aa 4) (.aa 6))})} .nil,.ite (.not (.call 66 {.aq (.aa 5) (.aa 6),.aq (.aa 8) (.int 0),.aq (.aa 8) (.int 1)})) {.ret (.bool false)} .nil}
@[reducible]def J9:SL:=.cons (.aK 5 (.call 10 {.aa 0})) {.eV 6 (.len (.aa 5)) yq,.ret (.bool true)}
@[reducible]def cL(t0:Option V)(lv lf:Nat)(w:Str)(l4 l5:Nat)(k:Nat)(y z:Option V):aP:=[t0,some (.ref lv),some (.ref lf),some (.str w),some (.ref l4),some (.ref l5),some (.int k),y,z]
abbrev qS(P:Prog)(sc:List Int)(n:Nat)(q:Tm)(vs fs:List Str):Prop:=∀(b:H)(a c:Nat),b[a]?=some (.af (vs.map .str))->b[c]?=some (.af (fs.map .str))->∃τ,av P sc (n+1) 66 [q.ag,.ref a,.ref c] b=.ok (.bool true) (b++τ)
def M4{C:Ctx}{i l:Nat}{e:E}{b:SL}{L L1:aP}{U ae ao:H}{vs:List V}{f:Fl}(c:aj C e L U=.ok (.ref l) ae)(a:ae[l]?=some (.af vs))(d:eK (λk=>M.bind (ea (.live l) k) λy=>M.pure (y.map λv=>[(i,v)])) (a8 C b) (vs.length+1) 0 L ae=.ok f L1 ao):cT C (.iL i e b) L U=.ok f L1 ao:=by
 have g:srcOf (.ref l) ae=.ok (.live l) ae:=by rw[pg,aN (d8 a)];rfl
 have h:fh (.live l) ae=.ok vs.length ae:=by rw[pa,aN (d8 a)];rfl
 simp only[me,Qh.N.bind,Qh.N.lift,c,g,h];exact d
abbrev qE(vs fs:List Str)(x:Str):Prop:=(∃i:Int,x=vn i/\1<=i/\i<10^10)/\mem x vs=false/\mem x fs=false
section
variable{P:Prog}{sc:List Int}(B:lR P)
include B
def OG{f g a:Nat}{vs fs xs:List Str}(p:∀x∈xs,qE vs fs x){t0 w3 v4 v5 v6 v8:Option V}:∀(r k:Nat)(y:Option V)(U:H),k+r=xs.length->U[a]?=some (.af (xs.map .str))->U[f]?=some (.af (vs.map .str))->U[g]?=some (.af (fs.map .str))->
  ∃j τ,eK (λk=>M.bind (ea (.live a) k) λy=>M.pure (y.map λv=>[(7,v)])) (a8 (cx P sc (n+1)) Cm) (r+1) k [t0,some (.ref f),some (.ref g),w3,v4,v5,v6,y,v8] U=.ok .next [t0,some (.ref f),some (.ref g),w3,v4,v5,v6,j,v8] (U++τ):=by
 intro r
 induction r with
|zero=>
  intro k y U hk h l m;refine#[y,[],?_];rw[List.append_nil];exact tq (by rw[jz,aN (by rw[aN (d8 h)];show Res.ok (xs.map V.str)[k]? U=_;rw[List.getElem?_eq_none (by rw[List.length_map];exact aM rt rfl hk)])];rfl)
|succ r q=>
  intro k y U hk h l m;have b:k<xs.length:=bD km rfl hk;obtain⟨⟨i,e,s,t⟩,u,m2⟩:=p _ (List.getElem_mem b);refine cb (Lg (sc:=sc) B s t n U) λτ o=>?_;rw[←e] at o;have c:=old (τ:=τ) l;have d:=old (τ:=τ) m;refine fD (q (k+1) (some (.str xs[k])) (U++τ) (cm (bD oc rfl hk) (bD og rfl hk)) (old h) c d) λj w z=>#[j,τ++w,?_];rw[←List.append_assoc];have c1:dh .In (.str xs[k]) (.ref f) (U++τ)=.ok false (U++τ):=by rw[qV,in_list c,u]
  have c2:dh .In (.str xs[k]) (.ref g) (U++τ)=.ok false (U++τ):=by rw[qV,in_list d,m2]
  exact(q9 (by rw[jz,aN (a:=some (.str xs[k])) (ae:=U) (by rw[aN (d8 h)];show Res.ok (xs.map V.str)[k]? U=_;rw[List.getElem?_map,List.getElem?_eq_getElem b];rfl)];rfl) rfl
   ((cj (ic (any_cons (r7 (w9 rfl o)) (λ_=>any_cons (cZ (aB rfl) (aB rfl) c1) (λ_=>any_cons (cZ (aB rfl) (aB rfl) c2) (λ_=>any_nil) (~~~ff)) (~~~ff)) (~~~ff)))).trans eU)).trans z
def QY{f b g h a k:Nat}{vs fs xs:List Str}{w:Str}{J:List V}{ps:List Tm}{q:Tm}{t0 y z:Option V}{U:H}(h4:U[g]?=some (.af J))(hr:J[k]?=some (.ref a))(u:U[a]?=some (.af (xs.map .str)))(h5:U[h]?=some (.af (ps.map Tm.ag)))(hq:ps[k]?=some q)(hk:k<10)(D:U[f]?=some (.af (vs.map .str)))(K:U[b]?=some (.af (fs.map .str)))(hn:∀x∈xs,qE vs fs x)(hl:vs.length+xs.length<=aJ)(F:fs.length+xs.length<=aJ)(hc:qS P sc n q (if(w=="def"&&k==1)=true then vs else vs++xs) (if(w=="def"&&k==1)=true then fs++xs else fs)):
  ∃i z' τ,a8 (cx P sc (n+1)) yq (cL t0 f b w g h k y z) U=.ok .next (cL t0 f b w g h k i z') (U++τ):=by
 have Q:((k:Nat):Int).toNat=k:=rfl;have G:∀(L:aP)(τ:H),cy L 4=some (.ref g)->cy L 6=some (.int k)->aj (cx P sc (n+1)) (.aq (.aa 4) (.aa 6)) L (U++τ)=.ok (.ref a) (U++τ):=λL τ q4 I=>cC (aB q4) (aB I) (dP (old h4) (by rw[Q];exact hr) (~~~bw iF rfl (gg _)) (~~~bw Ex rfl (Int.ofNat_lt.mpr hk)));refine fD (OG (sc:=sc) (n:=n) B hn (t0:=t0) (w3:=some (.str w)) (v4:=some (.ref g)) (v5:=some (.ref h)) (v6:=some (.int k)) (v8:=z) xs.length 0 y U (~~~cm (a7 jG rfl) (a7 oh rfl)) u D K) λi c R=>?_;have T:cT (cx P sc (n+1)) (.iL 7 (.aq (.aa 4) (.aa 6)) Cm) (cL t0 f b w g h k y z) U=_:=M4 (by have:=G (cL t0 f b w g h k y z) [] rfl rfl;rw[List.append_nil] at this;exact this) u (by rw[List.length_map];exact R);have m:binop .Add (.ref f) (.ref a) (U++c)=.ok (.ref (U++c).length) (U++c++[.af ((vs++xs).map .str)]):=by
  rw[add_lists (old D) (old u) (by rw[List.length_map,List.length_map];exact hl),List.map_append]
 generalize d:U++c++[O.af ((vs++xs).map V.str)]=s2 at m;have r:s2[b]?=some (.af (fs.map .str)):=d▸old (old K);have Wq:∀(L:aP)(τ:H),cy L 4=some (.ref g)->cy L 6=some (.int k)->aj (cx P sc (n+1)) (.aq (.aa 4) (.aa 6)) L (s2++τ)=.ok (.ref a) (s2++τ):=λL τ q4 I=>by
  have:=G L (c++([O.af ((vs++xs).map V.str)]++τ)) q4 I;rw[←List.append_assoc,←List.append_assoc,d] at this;exact this
 have X:∀τ:H,(s2++τ)[h]?=some (.af (ps.map Tm.ag)):=λτ=>by rw[←d];exact old (old (old h5))
 have Wr:∃τ,s2=U++τ:=#[_,d.symm.trans (List.append_assoc ..)];clear R;have Y:cT (cx P sc (n+1)) (.aK 8 (.af {.ak .Add (.aa 1) (.aq (.aa 4) (.aa 6)),.aa 2})) (cL t0 f b w g h k i z) (U++c)=.ok .next (cL t0 f b w g h k i (some (.ref s2.length))) (s2++[.af [.ref (U++c).length,.ref b]]):=
  zO (dE (ax (bX (aB rfl) (G _ _ rfl rfl) m) (aS rfl a6)) ∅)
 have v:∀(o:H)(A j C:Nat),(∃τ,o=U++τ)->o[A]?=some (.af [.ref j,.ref C])->o[h]?=some (.af (ps.map Tm.ag))->o[j]?=some (.af ((if(w=="def"&&k==1)=true then vs else vs++xs).map .str))->o[C]?=some (.af ((if(w=="def"&&k==1)=true then fs++xs else fs).map .str))->
   ∃τ,a8 (cx P sc (n+1)) {.ite (.not (.call 66 {.aq (.aa 5) (.aa 6),.aq (.aa 8) (.int 0),.aq (.aa 8) (.int 1)})) {.ret (.bool false)} .nil} (cL t0 f b w g h k i (some (.ref A))) o=.ok .next (cL t0 f b w g h k i (some (.ref A))) (U++τ):=λo A j C BY Z Ws g1 g2=>by
  obtain⟨τ,e⟩:=hc o j C g1 g2;obtain⟨fB,rfl⟩:=BY;refine#[fB++τ,?_];rw[←List.append_assoc];exact(cj (r7 (t:=true) (w9 (ax (cC (aB rfl) (aB rfl) (dP Ws (by rw[Q,List.getElem?_map,hq];rfl) (~~~bw iF rfl (gg _)) (~~~bw Ex rfl (Int.ofNat_lt.mpr hk)))) (ax (cC (y:=.int 0) (aB rfl) rfl (dP Z rfl ∅ ∅)) (ax (cC (y:=.int 1) (aB rfl) rfl (dP Z rfl ∅ ∅)) a6))) e))).trans eU
 obtain⟨l,rfl⟩:=Wr;have c1:∀(s:H),dh .Eq (.str w) (.str "def") s=.ok (w=="def") s:=λs=>rfl
 have c2:∀(s:H),dh .Eq (.int (k:Int)) (.int 1) s=.ok (k==1) s:=λs=>(xb _ _ s).trans (by
  congr 1
  rw[Bool.eq_iff_iff,beq_iff_eq,beq_iff_eq];lia)
 have p:∀(s:H)(z:Option V),bQ (cx P sc (n+1)) (.and {.cmp .Eq (.aa 3) (.str "def"),.cmp .Eq (.aa 6) (.int 1)}) (cL t0 f b w g h k i z) s=.ok (w=="def"&&k==1) s:=λs z=>by
  cases hw:(w=="def") with
  |false=>exact je (all_cons (cZ (aB rfl) rfl ((c1 s).trans (by rw[hw]))) (~~~ff) (λ_=>#[rfl,rfl]))
  |true=>cases hkk:(k==1) with
   |false=>exact je (all_cons (cZ (aB rfl) rfl ((c1 s).trans (by rw[hw]))) (λ_=>all_cons (cZ (aB rfl) rfl ((c2 s).trans (by rw[hkk]))) (~~~ff) (λ_=>#[rfl,rfl])) (~~~tf))
   |true=>exact je (all_cons (cZ (aB rfl) rfl ((c1 s).trans (by rw[hw]))) (λ_=>all_cons (cZ (aB rfl) rfl ((c2 s).trans (by rw[hkk]))) (λ_=>rfl) (~~~tf)) (~~~tf))
 cases hd:(w=="def"&&k==1) with
|false=>
  rw[hd] at v;exact cb (v (U++l++[.af [.ref (U++c).length,.ref b]]) (U++l).length (U++c).length b #[_,List.append_assoc ..] bA (X _) (old (d▸bA)) (old r)) λτ e=>#[i,_,τ,(dt T).trans ((dt Y).trans ((cj ((p _ _).trans (by rw[hd]))).trans e))]
|true=>
  rw[hd] at v;have Up:binop .Add (.ref b) (.ref a) (U++l++[O.af [.ref (U++c).length,.ref b]])=.ok (.ref (U++l++[O.af [.ref (U++c).length,.ref b]]).length) (U++l++[O.af [.ref (U++c).length,.ref b]]++[.af ((fs++xs).map .str)]):=by
   rw[add_lists (old r) (old (d▸old (old u))) (by rw[List.length_map,List.length_map];exact F),List.map_append]
  exact cb (v _ _ f (U++l++[O.af [.ref (U++c).length,.ref b]]).length #[l++([O.af [.ref (U++c).length,.ref b]]++([.af ((fs++xs).map .str)]++[.af [.ref f,.ref (U++l++[O.af [.ref (U++c).length,.ref b]]).length]])),by simp only[List.append_assoc]] (bA (U:=U++l++[O.af [.ref (U++c).length,.ref b]]++[.af ((fs++xs).map .str)])) (by rw[List.append_assoc,List.append_assoc];exact X _) (old (old (old (d▸old (old D))))) (old bA)) λτ e=>#[i,_,τ,(dt T).trans ((dt Y).trans ((dt ((jD ((p _ _).trans (by rw[hd]))).trans ((dt (zO (dE (aS rfl (ax (bX (aB rfl) (Wq _ _ rfl rfl) Up) a6)) ∅))).trans eU))).trans e))]
end
@[reducible]def Cn:E:=.and {.cmp .Eq (.aa 3) (.str "use"),.cmp .NotIn (.aq (.aa 0) (.int 1)) (.aa 2)}
@[reducible]def Wt:S:=.aK 4 (.af {.af .nil,.af .nil,.af .nil})
@[reducible]def Wu:S:=.ite (.or {.cmp .Eq (.aa 3) (.str "let"),.cmp .Eq (.aa 3) (.str "turns")}) {.eX (.aa 4) (.int 1) (.af {.aq (.aa 0) (.ak .Sub (.len (.aa 0)) (.int 3))})} .nil
@[reducible]def Wv:S:=.ite (.cmp .Eq (.aa 3) (.str "def")) {.aK 4 (.af {.af {.aq (.aa 0) (.int 2)},.af {.aq (.aa 0) (.int 1)}})} .nil
def lj{w k:Str}{b:Bool}{U:H}(h:(w==k)=b):dh .Eq (.str w) (.str k) U=.ok b U:=by rw[lZ];show Res.ok (w==k) U=_;rw[h]
@[reducible]def cN(p:Tm)(lv lf:Nat)(w:Str):aP:=[some p.ag,some (.ref lv),some (.ref lf),some (.str w),none,none,none,none,none]
@[reducible]def cR:SL:=.cons Wt (.cons Wu (.cons Wv J9))
section
variable{P:Prog}{sc:List Int}
def L8{I:H->Prop}(p:∀U τ,I U->I (U++τ)){m:Nat}{a0 a1 d f g a5:Option V}(a:∀k,k<m->∀U y z,I U->∃l o τ,a8 (cx P sc (n+1)) yq [a0,a1,d,f,g,a5,some (.int k),y,z] U=.ok .next [a0,a1,d,f,g,a5,some (.int k),l,o] (U++τ)):
  ∀(r k:Nat)(i b c:Option V)(U:H),k+r=m->I U->∃q s t τ,eK (λj=>M.pure ((d9 (m:Int))[j]?.map λv=>[(6,v)])) (a8 (cx P sc (n+1)) yq) (r+1) k [a0,a1,d,f,g,a5,i,b,c] U=.ok .next [a0,a1,d,f,g,a5,q,s,t] (U++τ):=by
 intro r
 induction r with
|zero=>
  intro k i b c U hk h;refine#[i,b,c,[],?_];rw[List.append_nil];exact tq (by rw[d9,List.getElem?_eq_none (by simp;exact aM rt rfl hk)];rfl)
|succ r u=>
  intro k i b c U hk h;refine ll (a k (bD km rfl hk) U b c h) λl o τ e=>S9 (u (k+1) (some (.int k)) l o (U++τ) (cm (bD oc rfl hk) (bD og rfl hk)) (p _ _ h)) λw x A B C=>#[w,x,A,τ++B,?_];rw[←List.append_assoc];exact(q9 (by rw[tr (by show k<m;exact bD km rfl hk)];rfl) rfl e).trans C
variable(B:lR P)
include B
abbrev UY(P:Prog)(sc:List Int)(n:Nat)(w:Str)(vs fs:List Str)(b:List V)(s:H)(k:Nat)(q:Tm):Prop:=∃(a:Nat)(xs:List Str),b[k]?=some (.ref a)/\s[a]?=some (.af (xs.map .str))/\(∀x∈xs,qE vs fs x)/\vs.length+xs.length<=aJ/\fs.length+xs.length<=aJ/\
 qS P sc n q (if(w=="def"&&k==1)=true then vs else vs++xs) (if(w=="def"&&k==1)=true then fs++xs else fs)
def yH{p:Tm}{w:Str}{vs fs:List Str}{h:List V}{d f g:Nat}{b:H}(l:b[g]?=some (.af h))(o:b[d]?=some (.af (vs.map .str)))(r:b[f]?=some (.af (fs.map .str)))(t:∀k q,p.parts[k]?=some q->UY P sc n w vs fs h b k q):∃L' τ,a8 (cx P sc (n+1)) J9 [some p.ag,some (.ref d),some (.ref f),some (.str w),some (.ref g),none,none,none,none] b=.ok (.ret (.bool true)) L' (b++τ):=by
 have u:=yF (sc:=sc) B.ym p n b;have i:(b++[O.af (p.parts.map Tm.ag)])[b.length]?=some (.af (p.parts.map Tm.ag)):=bA;have c:=rb p
 obtain⟨v,x,A,τ,e⟩:=L8 (P:=P) (sc:=sc) (n:=n) (m:=p.parts.length) (a0:=some p.ag) (a1:=some (.ref d)) (a5:=some (.ref b.length)) (I:=λs=>∃τ,s=b++[O.af (p.parts.map Tm.ag)]++τ) (λs τ #[j,q]=>#[j++τ,by rw[q,List.append_assoc]]) (λk hk s y z #[j,q]=>by
  subst q;obtain⟨a,Q,C,D,F,G,J,K⟩:=t k _ (List.getElem?_eq_getElem hk)
  exact QY B (old (old l)) C (old (old D)) (old i) (List.getElem?_eq_getElem hk) (~~~aM 0x2a06130124124124816334534184c rfl c hk) (old (old o)) (old (old r)) F G J K) p.parts.length 0 none none none _ (~~~cm (a7 jG rfl) (a7 oh rfl)) #[[],(List.append_nil _).symm]
 refine#[[some p.ag,some (.ref d),some (.ref f),some (.str w),some (.ref g),some (.ref b.length),v,x,A],[O.af (p.parts.map Tm.ag)]++τ,?_];rw[←List.append_assoc];have L:aj (cx P sc (n+1)) (.len (.aa 5)) [some p.ag,some (.ref d),some (.ref f),some (.str w),some (.ref g),some (.ref b.length),none,none,none] (b++[O.af (p.parts.map Tm.ag)])=.ok (.int p.parts.length) (b++[O.af (p.parts.map Tm.ag)]):=by
  rw[jA,aN (aB rfl),xc i (by rw[List.length_map];have:aJ=1000000:=rfl;exact aM 0xd301241240241248163306007247d078cd rfl c this),List.length_map]
 exact(bj (aT rfl u)).trans ((dt (vT L #[~~~bw iF rfl (gg _),~~~bw 0x7247d078cc0490492058cc rfl (Int.ofNat_le.mpr c)] e)).trans (bq rfl))
def vH{p:Tm}{w:Str}{b c:Nat}{U:H}(g:∃τ,av P sc (n+1) 65 [p.ag] U=.ok (.bool true) (U++τ))(h:∀C L s,aj C (.aq (.aa 0) (.int 0)) (some p.ag::L) s=.ok (.str w) s)(d:(w=="name")=false)(i:∀s,(∃τ,s=U++τ)->bQ (cx P sc (n+1)) Cn (cN p b c w) s=.ok false s)(a:∀s,(∃τ,s=U++τ)->∃L' f,a8 (cx P sc (n+1)) cR (cN p b c w) s=.ok (.ret (.bool true)) L' (U++f)):
  ∃τ,av P sc (n+2) 66 [p.ag,.ref b,.ref c] U=.ok (.bool true) (U++τ):=by refine cb (g) λτ e=>fD (a (U++τ) #[τ,rfl]) λL' f j=>#[f,?_];rw[cI B.Cj rfl];exact(congrArg cp ((cj (r7 (t:=true) (w9 rfl e))).trans ((bj (h _ _ _)).trans ((cj (cZ (aB rfl) rfl (lj d))).trans ((cj (i _ #[τ,rfl])).trans j))))).trans rfl
omit B in
def AZ{a0 a1 a:Option V}{r:aP}{w:Str}{s:H}{b:Bool}(h:(w=="let"||w=="turns")=b):bQ C (.or {.cmp .Eq (.aa 3) (.str "let"),.cmp .Eq (.aa 3) (.str "turns")}) (a0::a1::a::some (.str w)::r) s=.ok b s:=by
 subst h;cases h1:(w=="let") with
|true=>exact ic (any_cons (cZ (aB rfl) rfl (lj h1)) (~~~tf) (λ_=>#[rfl,rfl]))
|false=>cases h2:(w=="turns") with
  |true=>exact ic (any_cons (cZ (aB rfl) rfl (lj h1)) (λ_=>any_cons (cZ (aB rfl) rfl (lj h2)) (~~~tf) (λ_=>#[rfl,rfl])) (~~~ff))
  |false=>exact ic (any_cons (cZ (aB rfl) rfl (lj h1)) (λ_=>any_cons (cZ (aB rfl) rfl (lj h2)) (λ_=>any_nil) (~~~ff)) (~~~ff))
omit B in
def QZ{s:H}{L:aP}:aj C (.af {.af .nil,.af .nil,.af .nil}) L s=.ok (.ref (s++[O.af []]++[O.af []]++[O.af []]).length) (s++[.af []]++[.af []]++[.af []]++[.af [.ref s.length,.ref (s++[O.af []]).length,.ref (s++[O.af []]++[O.af []]).length]]):=
 dE (ax (dE a6 ∅) (ax (dE a6 ∅) (ax (dE a6 ∅) a6))) ∅
omit B in
def zl(C:Ctx)(L:aP)(s:H):∃a b c d e,aj C (.af {.af .nil,.af .nil,.af .nil}) L s=.ok (.ref b) a/\(∃τ,a=s++τ)/\a[b]?=some (.af [.ref c,.ref d,.ref e])/\a[c]?=some (.af [])/\a[d]?=some (.af [])/\a[e]?=some (.af [])/\s.length<=b/\c≠b:=by
 refine#[_,_,_,_,_,QZ,#[_,by simp only[List.append_assoc];rfl],bA,old (old (old bA)),old (old bA),old bA,?_,?_]
 ·simp only[List.length_append];lia
 ·simp only[List.length_append,List.length_cons,List.length_nil];lia
def L9{p:Tm}{w:Str}{vs fs:List Str}{b c:Nat}{U s:H}(g:∃τ,s=U++τ)(r:(w=="let"||w=="turns")=false)(h:(w=="def")=false)(t:s[b]?=some (.af (vs.map .str)))(u:s[c]?=some (.af (fs.map .str)))(v:vs.length<=aJ)(d:fs.length<=aJ)(y:∀q∈p.parts,qS P sc n q vs fs):
  ∃L' z,a8 (cx P sc (n+1)) cR (cN p b c w) s=.ok (.ret (.bool true)) L' (U++z):=by
 obtain⟨f,X,i,j,l,A,⟨C,q4⟩,D,F,G,I,_,_⟩:=zl (cx P sc (n+1)) (cN p b c w) s;have J:f[b]?=some (.af (vs.map .str)):=q4▸old t;have K:f[c]?=some (.af (fs.map .str)):=q4▸old u;obtain⟨m,rfl⟩:∃τ,f=U++τ:=by obtain⟨τ,rfl⟩:=g;exact#[τ++C,by rw[q4,List.append_assoc]]
 clear q4 g
 obtain⟨L',τ,e⟩:=yH B D J K (λk q o=>by
  have hk:k<p.parts.length:=(List.getElem?_eq_some_iff.mp o).1;have L:∃a,[V.ref i,.ref j,.ref l][k]?=some (.ref a)/\(U++m)[a]?=some (.af []):=by
   match k,(show k<3 by exact aM 0x2306130124124124816334534184c rfl (rb p) hk) with
   |0,_=>exact#[i,rfl,F]
   |1,_=>exact#[j,rfl,G]
   |2,_=>exact#[l,rfl,I]
  refine aQ (L) λa Q R=>#[a,[],Q,R,λx T=>absurd T List.not_mem_nil,v,d,?_];rw[h,Bool.false_and,if_neg ∅,if_neg ∅,List.append_nil]
  exact y q (List.mem_of_getElem? o))
 refine#[L',m++τ,?_];rw[←List.append_assoc];exact(bj A).trans ((cj (AZ r)).trans ((cj (cZ (aB rfl) rfl (lj h))).trans e))
end
section
variable{P:Prog}{sc:List Int}(B:lR P)
include B
def E5{p a b:Tm}{w x:Str}{vs fs:List Str}{i j:Nat}{U s:H}(J:∃τ,s=U++τ)(K:(w=="let"||w=="turns")=true)(A:(w=="def")=false)(Q:p.parts=[a,b])(o:∀(C:Ctx)(L:aP)(s:H),aj C (.aq (.aa 0) (.ak .Sub (.len (.aa 0)) (.int 3))) (some p.ag::L) s=.ok (.str x) s)(D:s[i]?=some (.af (vs.map .str)))(F:s[j]?=some (.af (fs.map .str)))(G:vs.length+1<=aJ)(l:fs.length+1<=aJ)(R:qE vs fs x)(T:qS P sc n a vs fs)(hb:qS P sc n b (vs++[x]) fs):
  ∃L' X,a8 (cx P sc (n+1)) cR (cN p i j w) s=.ok (.ret (.bool true)) L' (U++X):=by
 obtain⟨c,f,d,r1,g,Y,⟨o8,q4⟩,r,Z,_,_,m,t⟩:=zl (cx P sc (n+1)) (cN p i j w) s;have Co:c[i]?=some (.af (vs.map .str)):=q4▸old D;have Cq:c[j]?=some (.af (fs.map .str)):=q4▸old F;have WU:=(List.getElem?_eq_some_iff.mp r).1;have WV:=(List.getElem?_eq_some_iff.mp D).1;have WW:=(List.getElem?_eq_some_iff.mp F).1;have u:=mq (y:=.ref c.length) (k:=1) (old (τ:=[O.af [.str x]]) r) #[∅,by show(1:Int)<3;decide,nb rfl];have Wz:((c++[O.af [.str x]]).set f (.af [.ref d,.ref c.length,.ref g]))[f]?=some (.af [.ref d,.ref c.length,.ref g]):=gy (old r);have WA:((c++[O.af [.str x]]).set f (.af [.ref d,.ref c.length,.ref g]))[d]?=some (.af []):=qo (old Z) (Ne.symm t);have WB:((c++[O.af [.str x]]).set f (.af [.ref d,.ref c.length,.ref g]))[c.length]?=some (.af [.str x]):=qo bA (by lia);have v:((c++[O.af [.str x]]).set f (.af [.ref d,.ref c.length,.ref g]))[i]?=some (.af (vs.map .str)):=qo (old Co) (by lia);have z:((c++[O.af [.str x]]).set f (.af [.ref d,.ref c.length,.ref g]))[j]?=some (.af (fs.map .str)):=qo (old Cq) (by lia);have Cr:∃τ,(c++[O.af [.str x]]).set f (.af [.ref d,.ref c.length,.ref g])=U++τ:=by
  obtain⟨τ,rfl⟩:=J;rw[q4,List.append_assoc,List.append_assoc,List.set_append_right _ _ (by rw[List.length_append] at m;exact bD zA rfl m)];exact#[_,rfl]
 have u:iB (.ref f) (.int 1) (.ref c.length) (c++[O.af [.str x]])=.ok Unit.unit ((c++[O.af [.str x]]).set f (.af [.ref d,.ref c.length,.ref g])):=u;generalize (c++[O.af [.str x]]).set f (.af [.ref d,.ref c.length,.ref g])=s6 at *;obtain⟨u7,rfl⟩:=Cr
 obtain⟨L',τ,e⟩:=yH B Wz v z (λk q h=>by
  rw[Q] at h;have I:(w=="def"&&k==1)=false:=by rw[A,Bool.false_and]
  match k,h with
  |0,h=>
   cases h;refine#[d,[],rfl,WA,λx o=>absurd o List.not_mem_nil,by show vs.length+0<=aJ;exact aM Ey rfl G,by show fs.length+0<=aJ;exact aM Ey rfl l,?_];rw[I,if_neg ∅,if_neg ∅,List.append_nil];exact T
  |1,h=>
   cases h;refine#[c.length,[x],rfl,WB,λy hy=>by rw[List.mem_singleton.mp hy];exact R,G,l,?_];rw[I,if_neg ∅,if_neg ∅];exact hb
  |k+2,h=>cases h)
 refine#[L',u7++τ,?_];rw[←List.append_assoc];exact(bj Y).trans ((dt ((jD (AZ K)).trans ((dt (j7 (dE (ax (o _ _ _) a6) ∅) (aB rfl) rfl u)).trans eU))).trans ((cj (cZ (aB rfl) rfl (lj A))).trans e))
def OH{p a b:Tm}{g x:Str}{vs fs:List Str}{h i:Nat}{U s:H}(r:∃τ,s=U++τ)(t:p.parts=[a,b])(u:∀(C:Ctx)(L:aP)(s:H),aj C (.aq (.aa 0) (.int 2)) (some p.ag::L) s=.ok (.str x) s)(v:∀(C:Ctx)(L:aP)(s:H),aj C (.aq (.aa 0) (.int 1)) (some p.ag::L) s=.ok (.str g) s)(z:s[h]?=some (.af (vs.map .str)))(A:s[i]?=some (.af (fs.map .str)))(m:vs.length+1<=aJ)(f:fs.length+1<=aJ)(D:qE vs fs x)(j:qE vs fs g)(F:qS P sc n a (vs++[x]) fs)(hb:qS P sc n b vs (fs++[g])):
  ∃L' G,a8 (cx P sc (n+1)) cR (cN p h i "def") s=.ok (.ret (.bool true)) L' (U++G):=by
 obtain⟨c,l4,r0,r1,r2,I,⟨o8,q4⟩,g3,g0,_,_,J,K⟩:=zl (cx P sc (n+1)) (cN p h i "def") s;have Q:c[h]?=some (.af (vs.map .str)):=q4▸old z;have R:c[i]?=some (.af (fs.map .str)):=q4▸old A;have T:∀L,aj (cx P sc (n+1)) (.af {.af {.aq (.aa 0) (.int 2)},.af {.aq (.aa 0) (.int 1)}}) (some p.ag::L) c=.ok (.ref (c++[O.af [.str x]]++[O.af [.str g]]).length) (c++[.af [.str x]]++[.af [.str g]]++[.af [.ref c.length,.ref (c++[O.af [.str x]]).length]]):=λL=>
  dE (ax (dE (ax (u _ _ _) a6) ∅) (ax (dE (ax (v _ _ _) a6) ∅) a6)) ∅
 have k3:(c++[O.af [.str x]]++[O.af [.str g]]++[O.af [.ref c.length,.ref (c++[O.af [.str x]]).length]])[(c++[O.af [.str x]]++[O.af [.str g]]).length]?=some (.af [.ref c.length,.ref (c++[O.af [.str x]]).length]):=bA;have X:(c++[O.af [.str x]]++[O.af [.str g]]++[O.af [.ref c.length,.ref (c++[O.af [.str x]]).length]])[c.length]?=some (.af [.str x]):=old (old bA);have k1:(c++[O.af [.str x]]++[O.af [.str g]]++[O.af [.ref c.length,.ref (c++[O.af [.str x]]).length]])[(c++[O.af [.str x]]).length]?=some (.af [.str g]):=old bA;have Y:=old (τ:=[O.af [.ref c.length,.ref (c++[O.af [.str x]]).length]]) (old (τ:=[O.af [.str g]]) (old (τ:=[O.af [.str x]]) Q));have Z:=old (τ:=[O.af [.ref c.length,.ref (c++[O.af [.str x]]).length]]) (old (τ:=[O.af [.str g]]) (old (τ:=[O.af [.str x]]) R));have Cr:∃τ,c++[O.af [.str x]]++[O.af [.str g]]++[O.af [.ref c.length,.ref (c++[O.af [.str x]]).length]]=U++τ:=by
  obtain⟨τ,rfl⟩:=r;rw[q4];simp only[List.append_assoc];exact#[_,rfl]
 generalize (c++[O.af [.str x]]++[O.af [.str g]]).length=l6 at *;generalize (c++[O.af [.str x]]).length=o at *;generalize c++[O.af [.str x]]++[O.af [.str g]]++[O.af [.ref c.length,.ref o]]=s6 at *;obtain⟨u7,rfl⟩:=Cr
 obtain⟨L',τ,e⟩:=yH (sc:=sc) (n:=n) B (p:=p) (w:="def") k3 Y Z (λk q d=>by
  rw[t] at d
  match k,d with
  |0,d=>
   cases d;exact#[c.length,[x],rfl,X,λy l=>by rw[List.mem_singleton.mp l];exact D,m,f,F]
  |1,d=>
   cases d;exact#[o,[g],rfl,k1,λy l=>by rw[List.mem_singleton.mp l];exact j,m,f,hb]
  |k+2,d=>cases d)
 refine#[L',u7++τ,?_];rw[←List.append_assoc];exact(bj I).trans ((cj (AZ rfl)).trans ((dt ((jD (cZ (aB rfl) rfl (lj rfl))).trans ((bj (T _)).trans eU))).trans e))
end
abbrev VF(a:Dm)(vs fs:List Str):Prop:=(∀x,mem x vs=true ↔ a x=some .v)/\∀x,mem x fs=true ↔ a x=some .f
def E6(x y:Str)(l:List Str):mem x (l++[y])=(mem x l||(y==x)):=by unfold mem;rw[List.any_append];simp
def VF.v(h:VF Δ vs fs)(a:Δ x=none):VF (cV Δ x .v) (vs++[x]) fs:=by
 refine#[λy=>?_,λy=>?_]
 ·rw[E6,Bool.or_eq_true,h.1 y];unfold cV;cases hy:(x==y) with
  |true=>simp
  |false=>simp
 ·rw[h.2 y];unfold cV;cases hy:(x==y) with
  |true=>rw[←beq_iff_eq.mp hy,a];simp
  |false=>simp
def VF.f(h:VF Δ vs fs)(a:Δ x=none):VF (cV Δ x .f) vs (fs++[x]):=by
 refine#[λy=>?_,λy=>?_]
 ·rw[h.1 y];unfold cV;cases hy:(x==y) with
  |true=>rw[←beq_iff_eq.mp hy,a];simp
  |false=>simp
 ·rw[E6,Bool.or_eq_true,h.2 y];unfold cV;cases hy:(x==y) with
  |true=>simp
  |false=>simp
def VF.nn{K:Int}(h:VF Δ vs fs)(a:Δ x=none)(hb:∃i:Int,x=vn i/\1<=i/\i<=K)(b:K<10^10):qE vs fs x:=by
 obtain⟨i,e,c,d⟩:=hb;refine#[#[i,e,c,Int.lt_of_le_of_lt d b],?_,?_]
 ·cases q:mem x vs with
  |false=>rfl
  |true=>have:=(h.1 x).mp q;rw[a] at this;exact bR this
 ·cases q:mem x fs with
  |false=>rfl
  |true=>have:=(h.2 x).mp q;rw[a] at this;exact bR this
def Gl{vs:List V}(h:vs.length<=aJ):aj C (.len (.aa 0)) (some (.ay vs)::L) s=.ok (.int vs.length) s:=by rw[jA,aN (aB rfl)];show(if vs.length<=aJ then _ else _:M V) s=_;rw[if_pos h];rfl
section
variable{P:Prog}{sc:List Int}(B:lR P)
include B
abbrev BC(P:Prog)(sc:List Int)(K:Int)(p:Tm):Prop:=∀(a:Dm)(vs fs:List Str)(n:Nat),p.cl a->p.bb K->VF a vs fs->vs.length+p.depth<=aJ->fs.length+p.depth<=aJ->p.depth+2<=n->∀(U:H)(lv lf:Nat),U[lv]?=some (.af (vs.map .str))->U[lf]?=some (.af (fs.map .str))->∃τ,av P sc n 66 [p.ag,.ref lv,.ref lf] U=.ok (.bool true) (U++τ)
omit B in
def r9{a0 a1 a:Option V}{r:aP}{w:Str}{s:H}(h:(w=="use")=false):bQ C Cn (a0::a1::a::some (.str w)::r) s=.ok false s:=
 je (all_cons (cZ (aB rfl) rfl (lj h)) (~~~ff) (λ_=>#[rfl,rfl]))
def vW{p:Tm}{w:Str}{K:Int}(o:∀C L s,aj C (.aq (.aa 0) (.int 0)) (some p.ag::L) s=.ok (.str w) s)(t:(w=="name")=false)(u:(w=="let"||w=="turns")=false)(x:(w=="def")=false)(y:∀(a:Dm)(vs fs:List Str),p.cl a->VF a vs fs->∀(C:Ctx)(s:H)(d:Nat)(a1:Option V),s[d]?=some (.af (fs.map .str))->bQ C Cn [some p.ag,a1,some (.ref d),some (.str w),none,none,none,none,none] s=.ok false s)(z:∀q∈p.parts,BC P sc K q/\q.depth+1<=p.depth/\∀a,p.cl a->q.cl a)(hb:∀q∈p.parts,p.bb K->q.bb K):BC P sc K p:=λa vs fs n c b v g h i U R d A j=>by
 have:=vD p;obtain⟨m,rfl⟩:∃m,n=m+3:=#[n-3,~~~cm (a7 iX rfl) (aM 0xc0630a330804920124024124124814c062345361 rfl i this)];refine vH B (tc B c m U) o t (λs #[k,q]=>y a vs fs c v _ s d _ (q▸old j)) (λs #[k,q]=>L9 B #[k,q] u x (q▸old A) (q▸old j) (bD zA rfl g) (bD zA rfl h) λr l D e F G I=>?_);obtain⟨J,f,Q⟩:=z r l;exact J a vs fs (m+2) (Q a c) (hb r l b) v (ej Ez rfl g f) (ej Ez rfl h f) (bD 0x188d0623012412412481418cd06238538184c rfl i f) D e F G I
def Lq{K:Int}(Y:K<10^10)(p:Tm):BC P sc K p:=by
 induction p with
|un w a=>exact λo vs fs n c=>c.elim
|num i=>exact vW B (λ_ _ _=>rfl) rfl rfl rfl (λ_ _ _ _ _ _ _ _ _ _=>r9 rfl) (λq j=>absurd j List.not_mem_nil) (λq j=>absurd j List.not_mem_nil)
|name x=>
  intro o vs fs n c b v A D u U Z T Q L;obtain⟨m,rfl⟩:∃m,n=m+3:=#[n-3,by have:(Tm.name x).depth=1:=rfl;exact cm (a7 iX rfl) (aM 0xc0630a330804920124024124024124814c06234684d rfl u this)];obtain⟨G,e⟩:=tc B c m U;refine#[G,?_];rw[cI B.Cj rfl];have hm:dh .In (.str x) (.ref Z) (U++G)=.ok true (U++G):=by rw[qV,in_list (old Q),(v.1 x).mpr c]
  exact(congrArg cp ((cj (r7 (t:=true) (w9 rfl e))).trans ((bj rfl).trans (cu ⋯ (bq (oO (a:=.aq (.aa 0) (.int 1)) rfl (aB rfl) hm)))))).trans rfl
|use g a ih=>
  refine vW B (λ_ _ _=>rfl) rfl rfl rfl (λo vs fs c v C s T a1 L=>?_) (λq j=>?_) (λq j b=>?_)
  ·have hm:dh .NotIn (.str g) (.ref T) s=.ok false s:=by rw[sU,aN (in_list L),(v.2 g).mpr c.1];rfl
   exact je (all_cons ⋯ (λ_=>all_cons (cZ rfl (aB rfl) hm) (~~~ff) (λ_=>#[rfl,rfl])) (~~~tf))
  ·rw[List.mem_singleton.mp j];exact#[ih,by show a.depth+1<=1+a.depth;exact a7 v3 rfl,λo c=>c.2]
  ·rw[List.mem_singleton.mp j];exact b
|ak w a b I J=>
  have d:(Tm.ak w a b).depth=1+max a.depth b.depth:=rfl;have two:∀{q:Tm}{X:Prop},q∈(Tm.ak w a b).parts->(q=a->X)->(q=b->X)->X:=λj f g=>by
   rcases List.mem_cons.mp j with q|j
   ·exact f q
   ·exact g (List.mem_singleton.mp j)
  cases w<;>exact vW B (λ_ _ _=>rfl) rfl rfl rfl (λ_ _ _ _ _ _ _ _ _ _=>r9 rfl) (λq j=>two j (λe=>by rw[e];exact#[I,~~~bD 0x34184c20124124804904900904920604338c84d rfl d,λo c=>c.1]) (λe=>by rw[e];exact#[J,~~~bD 0x34184c20124124024124804904920604330e84d rfl d,λo c=>c.2])) (λq j=>two j (λe=>by rw[e];exact λz y x=>z y (.inl x)) (λe=>by rw[e];exact λz y x=>z y (.inr x)))
|when a b c I J i3=>
  have d:(Tm.when a b c).depth=1+max a.depth (max b.depth c.depth):=rfl;have F:∀{q:Tm}{X:Prop},q∈(Tm.when a b c).parts->(q=a->X)->(q=b->X)->(q=c->X)->X:=λj f g h=>by
   rcases List.mem_cons.mp j with q|j
   ·exact f q
   ·rcases List.mem_cons.mp j with q|j
    ·exact g q
    ·exact h (List.mem_singleton.mp j)
  exact vW B (λ_ _ _=>rfl) rfl rfl rfl (λ_ _ _ _ _ _ _ _ _ _=>r9 rfl) (λq j=>F j (λe=>by rw[e];exact#[I,~~~ej 0x34184c2082012412480490490090492012412480490490090492060430cf38c84d rfl d,λo c=>c.1]) (λe=>by rw[e];exact#[J,~~~ej 0x34184c2082012412402412480490492012412402412412480490490090090492060430cf30e84d rfl d,λo c=>c.2.1]) (λe=>by rw[e];exact#[i3,~~~ej 0x34184c2082012412402412412480490490090090492012412402412480490492060430cc3ce84d rfl d,λo c=>c.2.2])) (λq j=>F j (λe=>by rw[e];exact λz y x=>z y (.inl x)) (λe=>by rw[e];exact λz y x=>z y (.inr (.inl x))) (λe=>by rw[e];exact λz y x=>z y (.inr (.inr x))))
|aY x a b I J=>
  intro o vs fs n c z v A D u U Z T Q L;have d:(Tm.aY x a b).depth=1+max a.depth b.depth:=rfl;obtain⟨m,rfl⟩:∃m,n=m+3:=#[n-3,~~~cm (a7 iX rfl) (ej zB rfl u d)];have v':=v.v c.2.1;have l:(vs++[x]).length=vs.length+1:=List.length_append
  exact vH B (tc B c m U) (λ_ _ _=>rfl) rfl (λs _=>r9 rfl) (λs #[G,q]=>E5 B #[G,q] rfl rfl rfl (λ_ _ _=>cC (aB rfl) (bX (r:=.int 1) (Gl (vs:=[.str "let",.str x,a.ag,b.ag]) ∅) rfl rfl) rfl) (q▸old Q) (q▸old L) (~~~ij rD rfl A d) (~~~ij rD rfl D d) (v.nn c.2.1 (z x (.inl rfl)) Y)
   (I o vs fs (m+2) c.1 (λy q=>z y (.inr (.inl q))) v (ij tI rfl A d) (ij tI rfl D d) (ej zC rfl d u)) (J _ _ fs (m+2) c.2.2 (λy q=>z y (.inr (.inr q))) v' (lL zD rfl A d l) (ij zE rfl D d) (ej zF rfl d u)))
|bg k x a b I J=>
  intro o vs fs n c z v A D u U Z T Q L;have d:(Tm.bg k x a b).depth=1+max a.depth b.depth:=rfl;obtain⟨m,rfl⟩:∃m,n=m+3:=#[n-3,~~~cm (a7 iX rfl) (ej zB rfl u d)];have v':=v.v c.2.2.1;have l:(vs++[x]).length=vs.length+1:=List.length_append
  exact vH B (tc B c m U) (λ_ _ _=>rfl) rfl (λs _=>r9 rfl) (λs #[G,q]=>E5 B #[G,q] rfl rfl rfl (λ_ _ _=>cC (aB rfl) (bX (r:=.int 2) (Gl (vs:=[.str "turns",.int k,.str x,a.ag,b.ag]) ∅) rfl rfl) rfl) (q▸old Q) (q▸old L) (~~~ij rD rfl A d) (~~~ij rD rfl D d) (v.nn c.2.2.1 (z x (.inl rfl)) Y)
   (I o vs fs (m+2) c.2.1 (λy q=>z y (.inr (.inl q))) v (ij tI rfl A d) (ij tI rfl D d) (ej zC rfl d u)) (J _ _ fs (m+2) c.2.2.2 (λy q=>z y (.inr (.inr q))) v' (lL zD rfl A d l) (ij zE rfl D d) (ej zF rfl d u)))
|def_ g x kd a b I J=>
  intro o vs fs n c z v A D u U Z T Q L;have d:(Tm.def_ g x kd a b).depth=1+max a.depth b.depth:=rfl;obtain⟨m,rfl⟩:∃m,n=m+3:=#[n-3,~~~cm (a7 iX rfl) (ej zB rfl u d)];have v1:=v.v c.2.1;have v2:=v.f c.2.2.2.1;have l:(vs++[x]).length=vs.length+1:=List.length_append;have R:(fs++[g]).length=fs.length+1:=List.length_append
  exact vH B (tc B c m U) (λ_ _ _=>rfl) rfl (λs _=>r9 rfl) (λs #[G,q]=>OH B #[G,q] rfl (λ_ _ _=>rfl) (λ_ _ _=>rfl) (q▸old Q) (q▸old L) (ij rD rfl A d) (ij rD rfl D d) (v.nn c.2.1 (z x (.inl (.inr rfl))) Y) (v.nn c.2.2.2.1 (z g (.inl (.inl rfl))) Y)
   (I _ _ fs (m+2) c.2.2.1 (λy q=>z y (.inr (.inl q))) v1 (lL 0x38134c20124024124124024024124804900904904900904904920538140f1810d13614060613cc rfl A d l) (ij tI rfl D d) (ej zC rfl d u)) (J _ vs _ (m+2) c.2.2.2.2 (λy q=>z y (.inr (.inr q))) v2 (ij zE rfl A d) (lL zD rfl D d R) (ej zF rfl d u)))
end
def Q0(h:1<=i):V.ca (.str (vn i))=true:=by
 refine dk (G7 h) λc r e _ a=>?_;show(vn i).cps.all (· < 0x110000)=true;rw[Array.all_eq_true'];intro d q;have q:d∈(vn i).cps.toList:=Array.mem_toList_iff.mpr q;rw[e] at q;rcases List.mem_cons.mp q with rfl|q
 ·decide
 ·have:=a d q;simp only[decide_eq_true_eq];exact a7 0x700740790184c049049205e4780c rfl this.2
def nF{p:Tm}{K:Int}(hb:p.bb K)(h:p.bn y):V.ca (.str y)=true:=let #[i,e,h1,_]:=hb y h;e▸Q0 h1
abbrev DF(a:Dm):Prop:=∀y m,a y=some m->V.ca (.str y)=true
def DF.put(h:DF Δ)(a:V.ca (.str x)=true):DF (cV Δ x m):=λy m' q=>by
 unfold cV at q;cases hy:(x==y) with
|true=>rw[←beq_iff_eq.mp hy];exact a
|false=>rw[hy] at q;exact h y m' q
def f2(c:V.ca a=true)(d:V.ca b=true):V.ca (.ay [a,b])=true:=by show(V.ca a&&(V.ca b&&true))=true;rw[c,d];rfl
def f3(d:V.ca a=true)(e:V.ca b=true)(f:V.ca c=true):V.ca (.ay [a,b,c])=true:=by show(V.ca a&&V.ca (.ay [b,c]))=true;rw[d,f2 e f];rfl
def f4(e:V.ca a=true)(f:V.ca b=true)(g:V.ca c=true)(h:V.ca d=true):V.ca (.ay [a,b,c,d])=true:=by show(V.ca a&&V.ca (.ay [b,c,d]))=true;rw[e,f3 f g h];rfl
def f5(f:V.ca a=true)(g:V.ca b=true)(h:V.ca c=true)(i:V.ca d=true)(j:V.ca e=true):V.ca (.ay [a,b,c,d,e])=true:=by show(V.ca a&&V.ca (.ay [b,c,d,e]))=true;rw[f,f4 g h i j];rfl
def f6(g:V.ca a=true)(h:V.ca b=true)(i:V.ca c=true)(j:V.ca d=true)(k:V.ca e=true)(l:V.ca f=true):V.ca (.ay [a,b,c,d,e,f])=true:=by show(V.ca a&&V.ca (.ay [b,c,d,e,f]))=true;rw[g,f5 h i j k l];rfl
def iV{K:Int}:∀(p:Tm)(d:Dm),p.cl d->p.bb K->DF d->V.ca p.ag=true
|.num _=>λ_ _ _ _=>f2 (by decide+kernel) rfl
|.name x=>λd c _ h=>f2 (by decide+kernel) (h x _ c)
|.un _ _=>λ_ c=>c.elim
|.use g a=>λd c b h=>f3 (by decide+kernel) (h g _ c.1) (iV a d c.2 b h)
|.ak w a b=>λd c z h=>f3 (by cases w<;>decide+kernel) (iV a d c.1 (λy q=>z y (.inl q)) h) (iV b d c.2 (λy q=>z y (.inr q)) h)
|.aY x a b=>λd c z h=>f4 (by decide+kernel) (nF z (.inl rfl)) (iV a d c.1 (λy q=>z y (.inr (.inl q))) h) (iV b _ c.2.2 (λy q=>z y (.inr (.inr q))) (h.put (nF z (.inl rfl))))
|.bg n x a b=>λd c z h=>f5 (by decide+kernel) rfl (nF z (.inl rfl)) (iV a d c.2.1 (λy q=>z y (.inr (.inl q))) h) (iV b _ c.2.2.2 (λy q=>z y (.inr (.inr q))) (h.put (nF z (.inl rfl))))
|.def_ g x e a b=>λd c z h=>f6 (by decide+kernel) (nF z (.inl (.inl rfl))) (nF z (.inl (.inr rfl))) (by rw[c.1];decide+kernel) (iV a _ c.2.2.1 (λy q=>z y (.inr (.inl q))) (h.put (nF z (.inl (.inr rfl))))) (iV b _ c.2.2.2.2 (λy q=>z y (.inr (.inr q))) (h.put (nF z (.inl (.inl rfl)))))
|.when a b c=>λd k z h=>f4 (by decide+kernel) (iV a d k.1 (λy q=>z y (.inl q)) h) (iV b d k.2.1 (λy q=>z y (.inr (.inl q))) h) (iV c d k.2.2 (λy q=>z y (.inr (.inr q))) h)
mutual
theorem S7:∀v:V,V.ca v=true->gu v v=true
|.none=>λ_=>rfl
|.int i=>λ_=>by show(i==i)=true;exact beq_self_eq_true i
|.str s=>λ_=>by show(s==s)=true;exact beq_self_eq_true s
|.ay vs=>λh=>zZ vs h
|.bool _=>λh=>by cases h
|.ref _=>λh=>by cases h
|.cF=>λh=>by cases h
theorem zZ:∀vs:List V,V.eB vs=true->ji vs vs=true
|[]=>λ_=>rfl
|a::r=>λh=>by
  have h:(V.ca a&&V.eB r)=true:=h;rw[Bool.and_eq_true] at h;show(gu a a&&ji r r)=true;rw[S7 a h.1,zZ r h.2];rfl
end
def Uq{p:Tm}(h:V.ca p.ag=true)(a:p.depth<=50)(U:H):dh .Eq p.ag p.ag U=.ok true U:=by
 have q:=iE p;obtain⟨vs,e⟩:∃vs,p.ag=.ay vs:=by cases p<;>exact#[_,rfl]
 rw[e] at h q ⊢;have h:V.eB vs=true:=h;have b:fR vs vs=true:=by
  unfold fR;rw[h,decide_eq_true (show V.fj vs<=50 by exact aM 0x321e03012402412412481721e034634184c rfl a (q))];rfl
 rw[lZ];show(if fR vs vs=true then M.pure (ji vs vs) else M.fail:M Bool) U=_;rw[if_pos b,zZ vs h];rfl
def Ur(h:aj C a L U=.ok (.bool b) ae):aj C (.not a) L U=.ok (.bool !b) ae:=by rw[nV,aN h];rfl
def UZ(h:HG d [] .z true t .ba)(i:d<=5):∃p,(fin t).1=.pc p/\p.depth<=30/\p.cl (λ_=>none)/\p.bb K0:=by
 obtain⟨⟨p,f,_,_,j,_⟩,w⟩:=top h i;obtain⟨_,g,a,c,b⟩:=h.sc (λ_=>.no) (λ_=>none) sJ (λx e q=>~~~bR q) (bk _) (λy m q=>~~~bR q);have a:(fin t).1=.pc g:=a;have:p=g:=by rw[f] at a;exact congrArg Bv.p a
 subst this;exact#[p,f,j,c,qu b w]
section
variable{P:Prog}{sc:List Int}(B:lR P)
include B
def S8(I:sc.length<=63):∃o,av P sc 690 67 [.cF] []=.ok (.bool true) o:=by
 rw[show(690:Nat)=689+1 from rfl,cI B.J7 rfl]
 suffices hw:∃L' o,a8 (cx P sc 689) tn.body [some .cF,none,none,none,none] []=.ok (.ret (.bool true)) L' o by
  exact fD (hw) λL' o e=>#[o,(congrArg cp e).trans rfl]
 have J:∀(L:aP)(U:H),cy L 0=some .cF->aj (cx P sc 689) (.call 4 {.aa 0,.int 1}) L U=.ok (.int (mixed sc 1)) U:=λL U h=>
  aT (aS h (by rfl)) (yK B.toBase (n:=687) ∅ I U)
 generalize mixed sc 1=N at J;refine bB λXx w=>?_;have F:=kW (P:=P) B.toBase (a:=N) (b:=8) ∅;have Ck:∃d:Nat,5-(N.fmod 8).fdiv 3=(d:Int)/\d<=5:=by
  generalize N.fmod 8=j at F;have f:j.fdiv 3=j/3:=Int.fdiv_eq_ediv_of_nonneg _ ∅;rw[f];have a2:j/3<3:=Int.ediv_lt_of_lt_mul ∅ (Int.lt_trans F.2 ∅);exact#[(5-j/3).toNat,(Int.toNat_of_nonneg (~~~bw 0x8c9600490492058c184c rfl a2)).symm,Int.toNat_le.mpr (by show 5-j/3<=5;exact bw 0x942325049049205320 rfl (Int.ediv_nonneg F.1 (by decide:(0:Int)<=3)))]
 refine aQ (Ck) λd hd A=>dk (MQ B.toso I d 689 (~~~a7 0xc47a81a043230490c920594c rfl A) [] .z .ba true 0 1 [.af [.int 1,.int 0],.af []] #[1,0,∅,rfl] rfl (λ_ h=>absurd h List.not_mem_nil) (by simp;exact a7 0xa07bc43230490c920594c rfl A) (λh=>by cases h)) λt K e1 h k1=>?_;have G:=Pg.of h A;refine Tb (M3 (sc:=sc) B G (n:=688) ∅ K) λQ C v fl g e3 f R=>w ?_;have T:a8 (cx P sc 689) tn.body [some .cF,none,none,none,none] []=_:=(bj (v:=.int d) (ae:=[]) (bX (x:=.int 5) rfl (bX (r:=.int ((N.fmod 8).fdiv 3)) (bX (r:=.int (N.fmod 8)) (J _ _ rfl) rfl rfl) rfl rfl) (by rw[←hd];rfl))).trans
  ((bj (v:=t.ag) (ae:=K) (aT (aS rfl (ax (dE (vs:=[.int 1,.int 0]) rfl ∅) (ax rfl (ax rfl (ax (dE a6 ∅) (aS rfl rfl)))))) e1)).trans
  (bj (aT rfl e3)))
 have X:∀(s:H)(i:Int)(x:V),s[Q]?=some (.af [v,.bool fl,.bool g])->[v,.bool fl,.bool g][i.toNat]?=some x->0<=i->i<100->index (cx P sc 689) (.ref Q) (.int i) s=.ok x s:=λs i x hl hx h0 h1=>dP hl hx h0 (bw 0x700700700700700700700700700790184c04904920590784184c rfl h1);cases g with
|true=>exact#[_,_,T.trans (cu (HL (aB rfl) rfl (X C 2 (.bool true) f rfl ∅ ∅)) (bq rfl))]
|false=>
  refine bB λXx w=>g8 (R rfl) λY bh aW=>?_;clear R;subst bh;subst aW;have Z:=T.trans (cj (HL (aB rfl) rfl (X C 2 (.bool false) f rfl ∅ ∅)));rcases Ea (sc:=sc) B G Y (n:=688) ∅ C with ⟨f5,s5,l,k5⟩|⟨f5,s5,l,k5⟩
  ·refine oE (UZ h A) λp pe D pc pb=>?_;rw[pe] at l;have l:av P sc 689 53 [t.ag] C=.ok p.ag s5:=l;have u:=k5 _ _ f;rw[f5] at u;have c:aJ=1000000:=rfl;obtain⟨u7,e6⟩:=Lq B ∅ p (λ_=>none) [] [] 689 pc pb #[λx=>#[λq=>(by cases q),λq=>~~~bR q],λx=>#[λq=>(by cases q),λq=>~~~bR q]] (by show 0+p.depth<=aJ;exact aM tG rfl D c) (by show 0+p.depth<=aJ;exact aM tG rfl D c) (a7 0xc47a8188c049049205f8c rfl D) (s5++[.af []]++[.af []]) s5.length (s5++[O.af []]).length (old bA) bA;rcases Ea (sc:=sc) B G Y (n:=688) ∅ (s5++[.af []]++[.af []]++u7) with ⟨f7,s7,e7,k7⟩|⟨f7,s7,e7,k7⟩
   ·rw[pe] at e7;refine w #[_,_,(Z.trans (dt (Qj ((bj (aT rfl l)).trans eU)))).trans (bq (TX (Ur (b:=false) (cC (aB rfl) rfl (dP u (k:=1) rfl ∅ ∅))) (aT (aS rfl (ax (dE a6 ∅) (ax (dE a6 ∅) a6))) e6) (oO (aT (aS rfl a6) (e7)) (aB rfl) (Uq (iV p _ pc pb (λy m q=>~~~bR q)) (~~~a7 0xc8780c049049205f8c rfl D) s7))))]
   ·exact absurd (f7.symm.trans f5) ∅
  ·refine w ?_;have u:=k5 _ _ f;rw[f5] at u;exact#[_,_,Z.trans (vS ((OC (eo (lh (G3 rfl l)))).trans (bq (cC (aB rfl) rfl (dP u rfl ∅ ∅)))))]
end
end Qh
set_option backward.match.sparseCases true
set_option bootstrap.genMatcherCode true
set_option genInjectivity true
set_option genSizeOf true
set_option tactic.hygienic true
end
set_option tactic.hygienic true
namespace Qh
theorem M5:lR (GJ.rZ IF) where
 cell:=rfl
 mixed:=rfl
 drawn:=rfl
 name:=rfl
 next:=rfl
 aD:=rfl
 yk:=rfl
 JI:=rfl
 f32:=rfl
 JJ:=rfl
 JK:=rfl
 JL:=rfl
 gr:=UT
 f0:=rfl
 f1:=rfl
 f2:=rfl
 fy:=rfl
 JQ:=rfl
 yl:=rfl
 JR:=rfl
 B6:=rfl
 B7:=rfl
 c2:=rfl
 c3:=rfl
 c4:=rfl
 JC:=rfl
 JD:=rfl
 JE:=rfl
 JF:=rfl
 yg:=rfl
 sF:=rfl
 JG:=rfl
 c0:=rfl
 c1:=rfl
 ym:=rfl
 JV:=rfl
 JW:=rfl
 JX:=rfl
 JY:=rfl
 JZ:=rfl
 uY:=rfl
 J0:=rfl
 f6:=rfl
 Ci:=rfl
 J5:=rfl
 f64:=rfl
 J6:=rfl
 Cj:=rfl
 J7:=rfl
end Qh
open PySem PySem.W PyProof.Rows
set_option maxRecDepth 100000
set_option maxHeartbeats 0
theorem PySem.Challenge.cw_uf040035_07_holds : PySem.Challenge.rw_uf040035_07.Holds := by
 refine Qh.Q5 (by rfl) (by rfl) (by rfl) ?_;intro w dq bE mg mb G Y fa o pm cd doc dV kV ho hd hcd hD WC hg args vals as hpre hlay hrd hwl hlo;refine Ground.open G ?_;intro T B D TE TW
 try (refine guard_noD D (by decide+kernel) ?_;clear D)
 wrow_args hpre hlay hrd hwl hlo
 rename_i script hs WX WY hr1 hl2 WZ W0 sA xs W2 hL ra w1 r0 hI hr hc1 hc2
 have hlen:script.length<=63:=by lia
 have uG:=Qh.S8 (sc:=script) Qh.M5 hlen;obtain⟨ah,uG⟩:=uG;refine Qh.RH (I:=Qh.GJ) (kd:=Qh.IF) (L:=67) T TW TE (T.seer (by decide+kernel)) (by decide+kernel) (by decide+kernel) (by decide+kernel) (by decide+kernel) (by decide+kernel) (by decide+kernel) hL hI hlen (dL:=⟨"law",Qh.tn,Qh.CA⟩) rfl (by decide+kernel) WC uG λh' tk hk=>?_;refine GoodW.toG ⟨.inl ⟨_,_,_,rfl,λcls=>?_,.bool true,?_,λ_=>⟨List.nodup_nil,λa ha=>nomatch ha⟩⟩,hk,rfl,hg⟩
 ·rfl
 ·rfl'
