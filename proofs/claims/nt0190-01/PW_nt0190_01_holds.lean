import PyProof.Rows.All
import Wide.All
import OpenK.AllK
import Wide.FinOn
import KE.KEqDict
import KE.KDictOf
import PyProof.CompFree
import PyProof.AttrMissHeap
import PyProof.Cells
import Lean
import PySem.Challenge.RW_nt0190_01
set_option linter.all false
set_option maxRecDepth 100000
set_option Elab.async false
set_option genSizeOf false
set_option genInjectivity false
set_option bootstrap.genMatcherCode false
noncomputable section
set_option tactic.hygienic false
namespace Mine
theorem bw:type_of%@Nat.le_of_eq:=@Nat.le_of_eq
theorem bQ:type_of%@Nat.add_le_add:=@Nat.add_le_add
theorem cO:type_of%@Nat.lt_of_le_of_lt:=@Nat.lt_of_le_of_lt
theorem eP:type_of%@Nat.le_of_ble_eq_true:=@Nat.le_of_ble_eq_true
theorem cV:type_of%@Nat.le_trans:=@Nat.le_trans
theorem c8:type_of%@Option.some.inj:=@Option.some.inj
theorem eQ:type_of%@List.length_append:=@List.length_append
theorem dR:type_of%@List.length_map:=@List.length_map
theorem iJ:type_of%@Nat.mul_le_mul_left:=@Nat.mul_le_mul_left
theorem gS:type_of%@of_decide_eq_true:=@of_decide_eq_true
theorem bE:type_of%@Nat.le_refl:=@Nat.le_refl
theorem d6:type_of%@List.append_assoc:=@List.append_assoc
theorem dP:type_of%@Nat.le_antisymm:=@Nat.le_antisymm
theorem dE:type_of%@decide_eq_true:=@decide_eq_true
theorem eE:type_of%@List.append_nil:=@List.append_nil
theorem kH:type_of%@List.getElem?_eq_getElem:=@List.getElem?_eq_getElem
theorem eY:type_of%@decide_eq_false:=@decide_eq_false
theorem g9:type_of%@Int.natCast_nonneg:=@Int.natCast_nonneg
theorem dz:type_of%@Nat.zero_le:=@Nat.zero_le
theorem kU:type_of%@List.mem_append_left:=@List.mem_append_left
theorem mA:type_of%@List.mem_append_right:=@List.mem_append_right
theorem kI:type_of%@Nat.lt_of_lt_of_le:=@Nat.lt_of_lt_of_le
theorem mB:type_of%@List.mem_of_getElem?:=@List.mem_of_getElem?
theorem iD:type_of%@List.map_append:=@List.map_append
theorem jj:type_of%@Nat.succ_le_succ:=@Nat.succ_le_succ
theorem qg:type_of%@List.filter_cons_of_neg:=@List.filter_cons_of_neg
theorem rE:type_of%@List.filter_cons_of_pos:=@List.filter_cons_of_pos
theorem kX:type_of%@Bool.false_ne_true:=@Bool.false_ne_true
theorem wf:type_of%@List.getElem?_append_right:=@List.getElem?_append_right
theorem nv:type_of%@List.lookup_cons:=@List.lookup_cons
theorem cP{α:Type _}{a b:α}:a∈[b]->a=b:=List.mem_singleton.mp
theorem ci{α:Type _}{a b:α}{l:List α}:a∈b::l->a=b\/a∈l:=List.mem_cons.mp
theorem fQ{α:Type _}{l:List α}{i:Nat}{a:α}:l[i]?=some a->∃h:i<l.length,l[i]=a:=List.getElem?_eq_some_iff.mp
theorem gP{α:Type _}{a:α}{s t:List α}:a∈s++t->a∈s\/a∈t:=List.mem_append.mp
theorem iE{α β:Type _}{b:β}{f:α->β}{l:List α}:b∈l.map f->∃a,a∈l/\f a=b:=List.mem_map.mp
theorem jk{n m:Nat}:n<m->(n:Int)<m:=Int.ofNat_lt.mpr
theorem kY{α:Type _}{a:α}{l:List α}:(a::l).Nodup->a∉l/\l.Nodup:=List.nodup_cons.mp
theorem mC{n m:Nat}:(n:Int)=m->n=m:=Int.ofNat_inj.mp
theorem sG:(x||y)=true->x=true\/y=true:=Bool.or_eq_true_iff.mp
theorem rF{α:Type _}{p:α->Bool}{l:List α}:l.all p=true->∀x,x∈l->p x=true:=List.all_eq_true.mp
theorem bV{p0 p1 C:Prop}(h:p0/\p1)(k:p0->p1->C):C:=by
 obtain⟨h0,h1⟩:=h
 exact k h0 h1
theorem fy{p0 p1 p2 C:Prop}(h:p0/\p1/\p2)(k:p0->p1->p2->C):C:=by
 obtain⟨h0,h1,h2⟩:=h
 exact k h0 h1 h2
theorem gM{p0 p1 p2 p3 C:Prop}(h:p0/\p1/\p2/\p3)(k:p0->p1->p2->p3->C):C:=by
 obtain⟨h0,h1,h2,h3⟩:=h
 exact k h0 h1 h2 h3
theorem RW{p0 p1 p2 p3 p4 C:Prop}(h:p0/\p1/\p2/\p3/\p4)(k:p0->p1->p2->p3->p4->C):C:=by
 obtain⟨h0,h1,h2,h3,h4⟩:=h
 exact k h0 h1 h2 h3 h4
theorem Vj{p0 p1 p2 p3 p4 p5 C:Prop}(h:p0/\p1/\p2/\p3/\p4/\p5)(k:p0->p1->p2->p3->p4->p5->C):C:=by
 obtain⟨h0,h1,h2,h3,h4,h5⟩:=h
 exact k h0 h1 h2 h3 h4 h5
theorem Oy{p0 p1 p2 p3 p4 p5 p6 C:Prop}(h:p0/\p1/\p2/\p3/\p4/\p5/\p6)(k:p0->p1->p2->p3->p4->p5->p6->C):C:=by
 obtain⟨h0,h1,h2,h3,h4,h5,h6⟩:=h
 exact k h0 h1 h2 h3 h4 h5 h6
theorem aK{A0:Sort _}{p0:A0->Prop}{C:Prop}(h:∃x0,p0 x0)(k:∀x0,p0 x0->C):C:=by
 obtain⟨x0,h0⟩:=h
 exact k x0 h0
theorem aG{A0:Sort _}{p0 p1:A0->Prop}{C:Prop}(h:∃x0,p0 x0/\p1 x0)(k:∀x0,p0 x0->p1 x0->C):C:=by
 obtain⟨x0,h0,h1⟩:=h
 exact k x0 h0 h1
theorem ik{A0:Sort _}{p0 p1 p2:A0->Prop}{C:Prop}(h:∃x0,p0 x0/\p1 x0/\p2 x0)(k:∀x0,p0 x0->p1 x0->p2 x0->C):C:=by
 obtain⟨x0,h0,h1,h2⟩:=h
 exact k x0 h0 h1 h2
theorem WC{A0:Sort _}{p0 p1 p2 p3 p4:A0->Prop}{C:Prop}(h:∃x0,p0 x0/\p1 x0/\p2 x0/\p3 x0/\p4 x0)(k:∀x0,p0 x0->p1 x0->p2 x0->p3 x0->p4 x0->C):C:=by
 obtain⟨x0,h0,h1,h2,h3,h4⟩:=h
 exact k x0 h0 h1 h2 h3 h4
theorem gN{A0 A1:Sort _}{p0:A0->A1->Prop}{C:Prop}(h:∃x0 x1,p0 x0 x1)(k:∀x0 x1,p0 x0 x1->C):C:=by
 obtain⟨x0,x1,h0⟩:=h
 exact k x0 x1 h0
theorem fh{A0 A1:Sort _}{p0 p1:A0->A1->Prop}{C:Prop}(h:∃x0 x1,p0 x0 x1/\p1 x0 x1)(k:∀x0 x1,p0 x0 x1->p1 x0 x1->C):C:=by
 obtain⟨x0,x1,h0,h1⟩:=h
 exact k x0 x1 h0 h1
theorem nQ{A0 A1:Sort _}{p0 p1 p2:A0->A1->Prop}{C:Prop}(h:∃x0 x1,p0 x0 x1/\p1 x0 x1/\p2 x0 x1)(k:∀x0 x1,p0 x0 x1->p1 x0 x1->p2 x0 x1->C):C:=by
 obtain⟨x0,x1,h0,h1,h2⟩:=h
 exact k x0 x1 h0 h1 h2
theorem lk{A0 A1:Sort _}{p0 p1 p2 p3:A0->A1->Prop}{C:Prop}(h:∃x0 x1,p0 x0 x1/\p1 x0 x1/\p2 x0 x1/\p3 x0 x1)(k:∀x0 x1,p0 x0 x1->p1 x0 x1->p2 x0 x1->p3 x0 x1->C):C:=by
 obtain⟨x0,x1,h0,h1,h2,h3⟩:=h
 exact k x0 x1 h0 h1 h2 h3
theorem WD{A0 A1:Sort _}{p0 p1 p2 p3 p4:A0->A1->Prop}{C:Prop}(h:∃x0 x1,p0 x0 x1/\p1 x0 x1/\p2 x0 x1/\p3 x0 x1/\p4 x0 x1)(k:∀x0 x1,p0 x0 x1->p1 x0 x1->p2 x0 x1->p3 x0 x1->p4 x0 x1->C):C:=by
 obtain⟨x0,x1,h0,h1,h2,h3,h4⟩:=h
 exact k x0 x1 h0 h1 h2 h3 h4
theorem WE{A0 A1:Sort _}{p0 p1 p2 p3 p4 p5:A0->A1->Prop}{C:Prop}(h:∃x0 x1,p0 x0 x1/\p1 x0 x1/\p2 x0 x1/\p3 x0 x1/\p4 x0 x1/\p5 x0 x1)(k:∀x0 x1,p0 x0 x1->p1 x0 x1->p2 x0 x1->p3 x0 x1->p4 x0 x1->p5 x0 x1->C):C:=by
 obtain⟨x0,x1,h0,h1,h2,h3,h4,h5⟩:=h
 exact k x0 x1 h0 h1 h2 h3 h4 h5
theorem ON{A0 A1 A2:Sort _}{p0:A0->A1->A2->Prop}{C:Prop}(h:∃x0 x1 x2,p0 x0 x1 x2)(k:∀x0 x1 x2,p0 x0 x1 x2->C):C:=by
 obtain⟨x0,x1,x2,h0⟩:=h
 exact k x0 x1 x2 h0
theorem im{A0 A1 A2:Sort _}{p0 p1:A0->A1->A2->Prop}{C:Prop}(h:∃x0 x1 x2,p0 x0 x1 x2/\p1 x0 x1 x2)(k:∀x0 x1 x2,p0 x0 x1 x2->p1 x0 x1 x2->C):C:=by
 obtain⟨x0,x1,x2,h0,h1⟩:=h
 exact k x0 x1 x2 h0 h1
theorem wu{A0 A1 A2:Sort _}{p0 p1 p2:A0->A1->A2->Prop}{C:Prop}(h:∃x0 x1 x2,p0 x0 x1 x2/\p1 x0 x1 x2/\p2 x0 x1 x2)(k:∀x0 x1 x2,p0 x0 x1 x2->p1 x0 x1 x2->p2 x0 x1 x2->C):C:=by
 obtain⟨x0,x1,x2,h0,h1,h2⟩:=h
 exact k x0 x1 x2 h0 h1 h2
theorem Vk{A0 A1 A2:Sort _}{p0 p1 p2 p3:A0->A1->A2->Prop}{C:Prop}(h:∃x0 x1 x2,p0 x0 x1 x2/\p1 x0 x1 x2/\p2 x0 x1 x2/\p3 x0 x1 x2)(k:∀x0 x1 x2,p0 x0 x1 x2->p1 x0 x1 x2->p2 x0 x1 x2->p3 x0 x1 x2->C):C:=by
 obtain⟨x0,x1,x2,h0,h1,h2,h3⟩:=h
 exact k x0 x1 x2 h0 h1 h2 h3
theorem CH{A0 A1 A2:Sort _}{p0 p1 p2 p3 p4:A0->A1->A2->Prop}{C:Prop}(h:∃x0 x1 x2,p0 x0 x1 x2/\p1 x0 x1 x2/\p2 x0 x1 x2/\p3 x0 x1 x2/\p4 x0 x1 x2)(k:∀x0 x1 x2,p0 x0 x1 x2->p1 x0 x1 x2->p2 x0 x1 x2->p3 x0 x1 x2->p4 x0 x1 x2->C):C:=by
 obtain⟨x0,x1,x2,h0,h1,h2,h3,h4⟩:=h
 exact k x0 x1 x2 h0 h1 h2 h3 h4
theorem RX{A0 A1 A2:Sort _}{p0 p1 p2 p3 p4 p5:A0->A1->A2->Prop}{C:Prop}(h:∃x0 x1 x2,p0 x0 x1 x2/\p1 x0 x1 x2/\p2 x0 x1 x2/\p3 x0 x1 x2/\p4 x0 x1 x2/\p5 x0 x1 x2)(k:∀x0 x1 x2,p0 x0 x1 x2->p1 x0 x1 x2->p2 x0 x1 x2->p3 x0 x1 x2->p4 x0 x1 x2->p5 x0 x1 x2->C):C:=by
 obtain⟨x0,x1,x2,h0,h1,h2,h3,h4,h5⟩:=h
 exact k x0 x1 x2 h0 h1 h2 h3 h4 h5
theorem Vl{A0 A1 A2 A3:Sort _}{p0:A0->A1->A2->A3->Prop}{C:Prop}(h:∃x0 x1 x2 x3,p0 x0 x1 x2 x3)(k:∀x0 x1 x2 x3,p0 x0 x1 x2 x3->C):C:=by
 obtain⟨x0,x1,x2,x3,h0⟩:=h
 exact k x0 x1 x2 x3 h0
theorem E7{A0 A1 A2 A3:Sort _}{p0 p1:A0->A1->A2->A3->Prop}{C:Prop}(h:∃x0 x1 x2 x3,p0 x0 x1 x2 x3/\p1 x0 x1 x2 x3)(k:∀x0 x1 x2 x3,p0 x0 x1 x2 x3->p1 x0 x1 x2 x3->C):C:=by
 obtain⟨x0,x1,x2,x3,h0,h1⟩:=h
 exact k x0 x1 x2 x3 h0 h1
theorem DK{A0 A1 A2 A3:Sort _}{p0 p1 p2:A0->A1->A2->A3->Prop}{C:Prop}(h:∃x0 x1 x2 x3,p0 x0 x1 x2 x3/\p1 x0 x1 x2 x3/\p2 x0 x1 x2 x3)(k:∀x0 x1 x2 x3,p0 x0 x1 x2 x3->p1 x0 x1 x2 x3->p2 x0 x1 x2 x3->C):C:=by
 obtain⟨x0,x1,x2,x3,h0,h1,h2⟩:=h
 exact k x0 x1 x2 x3 h0 h1 h2
theorem Vm{A0 A1 A2 A3:Sort _}{p0 p1 p2 p3:A0->A1->A2->A3->Prop}{C:Prop}(h:∃x0 x1 x2 x3,p0 x0 x1 x2 x3/\p1 x0 x1 x2 x3/\p2 x0 x1 x2 x3/\p3 x0 x1 x2 x3)(k:∀x0 x1 x2 x3,p0 x0 x1 x2 x3->p1 x0 x1 x2 x3->p2 x0 x1 x2 x3->p3 x0 x1 x2 x3->C):C:=by
 obtain⟨x0,x1,x2,x3,h0,h1,h2,h3⟩:=h
 exact k x0 x1 x2 x3 h0 h1 h2 h3
theorem Vn{A0 A1 A2 A3:Sort _}{p0 p1 p2 p3 p4:A0->A1->A2->A3->Prop}{C:Prop}(h:∃x0 x1 x2 x3,p0 x0 x1 x2 x3/\p1 x0 x1 x2 x3/\p2 x0 x1 x2 x3/\p3 x0 x1 x2 x3/\p4 x0 x1 x2 x3)(k:∀x0 x1 x2 x3,p0 x0 x1 x2 x3->p1 x0 x1 x2 x3->p2 x0 x1 x2 x3->p3 x0 x1 x2 x3->p4 x0 x1 x2 x3->C):C:=by
 obtain⟨x0,x1,x2,x3,h0,h1,h2,h3,h4⟩:=h
 exact k x0 x1 x2 x3 h0 h1 h2 h3 h4
inductive LT where
 |X (i:Nat)|Nm (k:Nat)|Pl (a b:LT)|Ml (k:Nat) (a:LT)
noncomputable abbrev X0:LT:=.X 0
noncomputable abbrev X1:LT:=.X 1
noncomputable abbrev X2:LT:=.X 2
noncomputable abbrev X3:LT:=.X 3
noncomputable abbrev X4:LT:=.X 4
noncomputable abbrev X5:LT:=.X 5
noncomputable abbrev X6:LT:=.X 6
noncomputable abbrev X7:LT:=.X 7
noncomputable abbrev Nm:=LT.Nm
noncomputable abbrev Pl:=LT.Pl
noncomputable abbrev Ml:=LT.Ml
noncomputable def gt:List Nat->Nat->Nat:=λ l=>List.rec (motive:=λ u0=>Nat->Nat) (λ u0=>0) (λ x u0 f i=>Nat.rec (motive:=λ u0=>Nat) x (λ j u0=>f j) i) l
noncomputable def ev(c:List Nat)(t:LT):Nat:=LT.rec (motive:=λ u0=>Nat) (λ i=>gt c i) (λ k=>k) (λ u0 u0 x y=>x+y) (λ k u0 x=>k*x) t
noncomputable def FI:List Nat->List Nat->List Nat:=λ l=>List.rec (motive:=λ u0=>List Nat->List Nat) (λ m=>m) (λ x l f m=>List.rec (motive:=λ u0=>List Nat) (x::l) (λ y m u0=>(x+y)::f m) m) l
noncomputable def FJ(k:Nat)(l:List Nat):List Nat:=List.rec (motive:=λ u0=>List Nat) [] (λ x u0 r=>(k*x)::r) l
noncomputable def wz(i:Nat):List Nat:=Nat.rec (motive:=λ u0=>List Nat) [1] (λ u0 r=>0::r) i
noncomputable def nf(t:LT):List Nat:=LT.rec (motive:=λ u0=>List Nat) (λ i=>0::wz i) (λ k=>[k]) (λ u0 u0 x y=>FI x y) (λ k u0 x=>FJ k x) t
noncomputable def gi(l:List Nat):(Nat->Nat)->Nat:=List.rec (motive:=λ u0=>(Nat->Nat)->Nat) (λ u0=>0) (λ x u0 r f=>x*f 0+r (λ i=>f (i+1))) l
noncomputable def I4(l:List Nat):List Nat->Bool:=List.rec (motive:=λ u0=>List Nat->Bool) (λ u0=>true) (λ x u0 r m=>List.rec (motive:=λ u0=>Bool) (Nat.ble x 0&&r []) (λ y m u0=>Nat.ble x y&&r m) m) l
noncomputable def Qq(c:List Nat)(i:Nat):Nat:=Nat.rec (motive:=λ u0=>Nat) 1 (λ j u0=>gt c j) i
theorem Jv(l:List Nat):∀(m:List Nat) (f:Nat->Nat),gi (FI l m) f=gi l f+gi m f:=by
 induction l with
 |nil=>exact λ m f=>(Nat.zero_add _).symm
 |cons x l ih=>
  intro m f
  cases m with
  |nil=>rfl
  |cons y m=>
   show(x+y)*f 0+gi (FI l m) (λ i=>f (i+1))=(x*f 0+gi l (λ i=>f (i+1)))+(y*f 0+gi m (λ i=>f (i+1)))
   rw[ih,Nat.add_mul,Nat.add_add_add_comm]
theorem Jw(k:Nat)(l:List Nat):∀f:Nat->Nat,gi (FJ k l) f=k*gi l f:=by
 induction l with
 |nil=>exact λ f=>rfl
 |cons x l ih=>
  intro f
  show(k*x)*f 0+gi (FJ k l) (λ i=>f (i+1))=k*(x*f 0+gi l (λ i=>f (i+1)))
  rw[ih,Nat.mul_add,Nat.mul_assoc]
theorem GW(i:Nat):∀f:Nat->Nat,gi (wz i) f=f i:=by
 induction i with
 |zero=>exact λ f=>Nat.one_mul (f 0)
 |succ i ih=>
  intro f
  show 0*f 0+gi (wz i) (λ i=>f (i+1))=f (i+1)
  rw[ih,Nat.zero_mul,Nat.zero_add]
theorem LI(c:List Nat)(t:LT):ev c t=gi (nf t) (Qq c):=by
 induction t with
 |X i=>exact((congrArg (·+gi (wz i) (gt c)) (Nat.zero_mul 1)).trans ((Nat.zero_add _).trans (GW i (gt c)))).symm
 |Nm k=>exact(Nat.mul_one k).symm
 |Pl a b x y=>exact(congr (congrArg (·+·) x) y).trans (Jv _ _ _).symm
 |Ml k a x=>exact(congrArg (k*·) x).trans (Jw _ _ _).symm
theorem NF(l:List Nat):∀(m:List Nat) (f:Nat->Nat),I4 l m=true->gi l f<=gi m f:=by
 induction l with
 |nil=>exact λ m f u0=>dz _
 |cons x l ih=>
  intro m f h
  cases m with
  |nil=>
   obtain⟨h0,h1⟩:=Bool.and_eq_true_iff.mp (show(Nat.ble x 0&&I4 l [])=true from h)
   obtain rfl:=Nat.le_zero.mp (eP h0)
   show 0*f 0+gi l (λ i=>f (i+1))<=0
   rw[Nat.zero_mul,Nat.zero_add];exact ih [] _ h1
  |cons y m=>
   obtain⟨h0,h1⟩:=Bool.and_eq_true_iff.mp (show(Nat.ble x y&&I4 l m)=true from h)
   exact bQ (Nat.mul_le_mul_right _ (eP h0)) (ih m _ h1)
noncomputable def MH(s t:LT):Bool:=I4 (nf s) (nf t)
theorem aL(c:List Nat)(s t:LT)(ok:MH s t=true):ev c s<=ev c t:=by
 rw[LI,LI];exact NF _ _ _ ok
theorem ai(c:List Nat)(s t:LT)(k:Nat)(s1 t1:LT)(ok:MH (.Pl s (.Ml k t1)) (.Pl t (.Ml k s1))=true)(h1:ev c s1<=ev c t1):ev c s<=ev c t:=by
 have h:ev c s+k*ev c t1<=ev c t+k*ev c s1:=aL c (.Pl s (.Ml k t1)) (.Pl t (.Ml k s1)) ok
 exact Nat.le_of_add_le_add_right (cV h (Nat.add_le_add_left (iJ k h1) _))
theorem hY{a b c d k l:Nat}(h1:a<=b)(h2:c<=d):k*a+l*c<=k*b+l*d:=bQ (iJ k h1) (iJ l h2)
theorem aS(c:List Nat)(s t:LT)(k1:Nat)(s1 t1:LT)(k2:Nat)(s2 t2:LT)(ok:MH (.Pl s (.Ml 1 (.Pl (.Ml k1 t1) (.Ml k2 t2)))) (.Pl t (.Ml 1 (.Pl (.Ml k1 s1) (.Ml k2 s2))))=true)(h1:ev c s1<=ev c t1)(h2:ev c s2<=ev c t2):ev c s<=ev c t:=ai c s t 1 (.Pl (.Ml k1 s1) (.Ml k2 s2)) (.Pl (.Ml k1 t1) (.Ml k2 t2)) ok (hY h1 h2)
theorem fH(c:List Nat)(s t:LT)(k1:Nat)(s1 t1:LT)(k2:Nat)(s2 t2:LT)(k3:Nat)(s3 t3:LT)(ok:MH (.Pl s (.Ml 1 (.Pl (.Ml 1 (.Pl (.Ml k1 t1) (.Ml k2 t2))) (.Ml k3 t3)))) (.Pl t (.Ml 1 (.Pl (.Ml 1 (.Pl (.Ml k1 s1) (.Ml k2 s2))) (.Ml k3 s3))))=true)(h1:ev c s1<=ev c t1)(h2:ev c s2<=ev c t2)(h3:ev c s3<=ev c t3):ev c s<=ev c t:=ai c s t 1 (.Pl (.Ml 1 (.Pl (.Ml k1 s1) (.Ml k2 s2))) (.Ml k3 s3)) (.Pl (.Ml 1 (.Pl (.Ml k1 t1) (.Ml k2 t2))) (.Ml k3 t3)) ok (hY (hY h1 h2) h3)
theorem nw(c:List Nat)(s t:LT)(k1:Nat)(s1 t1:LT)(k2:Nat)(s2 t2:LT)(k3:Nat)(s3 t3:LT)(k4:Nat)(s4 t4:LT)(ok:MH (.Pl s (.Ml 1 (.Pl (.Ml 1 (.Pl (.Ml k1 t1) (.Ml k2 t2))) (.Ml 1 (.Pl (.Ml k3 t3) (.Ml k4 t4)))))) (.Pl t (.Ml 1 (.Pl (.Ml 1 (.Pl (.Ml k1 s1) (.Ml k2 s2))) (.Ml 1 (.Pl (.Ml k3 s3) (.Ml k4 s4))))))=true)(h1:ev c s1<=ev c t1)(h2:ev c s2<=ev c t2)(h3:ev c s3<=ev c t3)(h4:ev c s4<=ev c t4):ev c s<=ev c t:=ai c s t 1 (.Pl (.Ml 1 (.Pl (.Ml k1 s1) (.Ml k2 s2))) (.Ml 1 (.Pl (.Ml k3 s3) (.Ml k4 s4)))) (.Pl (.Ml 1 (.Pl (.Ml k1 t1) (.Ml k2 t2))) (.Ml 1 (.Pl (.Ml k3 t3) (.Ml k4 t4)))) ok (hY (hY h1 h2) (hY h3 h4))
theorem I5(c:List Nat)(s t:LT)(k1:Nat)(s1 t1:LT)(k2:Nat)(s2 t2:LT)(k3:Nat)(s3 t3:LT)(k4:Nat)(s4 t4:LT)(k5:Nat)(s5 t5:LT)(ok:MH (.Pl s (.Ml 1 (.Pl (.Ml 1 (.Pl (.Ml 1 (.Pl (.Ml k1 t1) (.Ml k2 t2))) (.Ml 1 (.Pl (.Ml k3 t3) (.Ml k4 t4))))) (.Ml k5 t5)))) (.Pl t (.Ml 1 (.Pl (.Ml 1 (.Pl (.Ml 1 (.Pl (.Ml k1 s1) (.Ml k2 s2))) (.Ml 1 (.Pl (.Ml k3 s3) (.Ml k4 s4))))) (.Ml k5 s5))))=true)(h1:ev c s1<=ev c t1)(h2:ev c s2<=ev c t2)(h3:ev c s3<=ev c t3)(h4:ev c s4<=ev c t4)(h5:ev c s5<=ev c t5):ev c s<=ev c t:=ai c s t 1 (.Pl (.Ml 1 (.Pl (.Ml 1 (.Pl (.Ml k1 s1) (.Ml k2 s2))) (.Ml 1 (.Pl (.Ml k3 s3) (.Ml k4 s4))))) (.Ml k5 s5)) (.Pl (.Ml 1 (.Pl (.Ml 1 (.Pl (.Ml k1 t1) (.Ml k2 t2))) (.Ml 1 (.Pl (.Ml k3 t3) (.Ml k4 t4))))) (.Ml k5 t5)) ok (hY (hY (hY h1 h2) (hY h3 h4)) h5)
theorem Po(c:List Nat)(s t:LT)(k1:Nat)(s1 t1:LT)(k2:Nat)(s2 t2:LT)(k3:Nat)(s3 t3:LT)(k4:Nat)(s4 t4:LT)(k5:Nat)(s5 t5:LT)(k6:Nat)(s6 t6:LT)(ok:MH (.Pl s (.Ml 1 (.Pl (.Ml 1 (.Pl (.Ml 1 (.Pl (.Ml k1 t1) (.Ml k2 t2))) (.Ml 1 (.Pl (.Ml k3 t3) (.Ml k4 t4))))) (.Ml 1 (.Pl (.Ml k5 t5) (.Ml k6 t6)))))) (.Pl t (.Ml 1 (.Pl (.Ml 1 (.Pl (.Ml 1 (.Pl (.Ml k1 s1) (.Ml k2 s2))) (.Ml 1 (.Pl (.Ml k3 s3) (.Ml k4 s4))))) (.Ml 1 (.Pl (.Ml k5 s5) (.Ml k6 s6))))))=true)(h1:ev c s1<=ev c t1)(h2:ev c s2<=ev c t2)(h3:ev c s3<=ev c t3)(h4:ev c s4<=ev c t4)(h5:ev c s5<=ev c t5)(h6:ev c s6<=ev c t6):ev c s<=ev c t:=ai c s t 1 (.Pl (.Ml 1 (.Pl (.Ml 1 (.Pl (.Ml k1 s1) (.Ml k2 s2))) (.Ml 1 (.Pl (.Ml k3 s3) (.Ml k4 s4))))) (.Ml 1 (.Pl (.Ml k5 s5) (.Ml k6 s6)))) (.Pl (.Ml 1 (.Pl (.Ml 1 (.Pl (.Ml k1 t1) (.Ml k2 t2))) (.Ml 1 (.Pl (.Ml k3 t3) (.Ml k4 t4))))) (.Ml 1 (.Pl (.Ml k5 t5) (.Ml k6 t6)))) ok (hY (hY (hY h1 h2) (hY h3 h4)) (hY h5 h6))
theorem Az(a c:Nat):a<=a-c+c:=Nat.le_add_of_sub_le (bE _)
theorem SO(a c:Nat):a-c<=a:=Nat.sub_le a c
theorem AA{a c:Nat}(h:c<=a):a-c+c<=a:=bw (Nat.sub_add_cancel h)
theorem RY(h:a<=2)(e:a=b):b<=4:=e ▸ cV h (eP rfl)
theorem SP(h:k=n+1-i)(hi:i<=n):n+1-(i+1)<k:=h ▸ Nat.sub_lt_sub_left (Nat.lt_succ_of_le hi) (Nat.lt_succ_self i)
theorem Vo(m:Nat):(if(0:Int)<m then(m:Int)-0 else 0)=m:=by
 cases m with
 |zero=>rfl
 |succ n=>exact(if_pos (jk (Nat.succ_pos n))).trans (Int.sub_zero _)
theorem RZ(h1:x0<((x1:Nat):Int))(h2:x1=(1000000:Nat))(h:((1000000:Nat):Int)<=b):x0<b:=Int.lt_of_lt_of_le h1 (h2 ▸ h)
theorem R5{n m:Nat}(e:m=1000000)(h:n<=m):(n:Int)<=(2:Int)^63:=Int.le_trans (Int.ofNat_le.mpr (e ▸ h)) (gS rfl:((1000000:Nat):Int)<=2^63)
theorem Vp:(Int.toNat ((-1:Int)+(((x0+(1:Nat)):Nat):Int)))=x0:=congrArg Int.toNat ((Int.add_comm (-1) ((x0:Int)+1)).trans (Int.add_neg_cancel_right (x0:Int) 1))
theorem WF{n:Nat}(h:1<=n):max (-1+(n:Int)) 0=((n-1:Nat):Int):=by
 cases n with
 |zero=>exact nomatch h
 |succ m=>exact(congrArg (max · 0) ((Int.add_comm (-1) ((m:Int)+1)).trans (Int.add_neg_cancel_right (m:Int) 1))).trans (Int.max_eq_left (g9 m))
theorem WG(m:Nat):(if(0:Int)<m then(m:Int)-0-1+1 else 0).toNat=m:=by
 cases m with
 |zero=>rfl
 |succ n=>exact congrArg Int.toNat ((if_pos (jk (Nat.succ_pos n))).trans ((Int.sub_add_cancel _ _).trans (Int.sub_zero _)))
theorem TV(n:Nat):(if(0:Int)<max 0 (min 40 (n:Int)) then max 0 (min 40 (n:Int)) else 0)<=40:=by
 split
 ·exact Int.max_le.mpr ⟨gS rfl,Int.min_le_left ..⟩
 ·exact gS rfl
theorem Vq:(x0+(((x1:Nat):Int)+(1:Int)))=((x0+(1:Int))+((x1:Nat):Int)):=(Int.add_assoc _ _ _).symm.trans (Int.add_right_comm _ _ _)
theorem kK{C:Prop}(h:false=true):C:=by cases h
theorem IJ{C:Prop}(h:true=false):C:=by cases h
theorem dD{α:Type _}{x:α}{C:Prop}(h:none=some x):C:=by cases h
theorem AB{α:Type _}{x:α}{C:Prop}(h:some x=none):C:=by cases h
section
noncomputable def CJ{α:Type}(d:α)(l:List α):Nat->α:=List.rec (motive:=λ u0=>Nat->α) (λ u0=>d) (λ x u0 f i=>Nat.rec (motive:=λ u0=>α) x (λ j u0=>f j) i) l
noncomputable abbrev aY{n:Nat}(i:Nat):Fin (n+1):=Fin.ofNat (n+1) i
noncomputable abbrev Sy:=Fin 27
noncomputable abbrev Sy.const:Sy:=aY 0
noncomputable abbrev Sy.move:Sy:=aY 1
noncomputable abbrev Sy.global:Sy:=aY 2
noncomputable abbrev Sy.mR:Sy:=aY 3
noncomputable abbrev Sy.define:Sy:=aY 4
noncomputable abbrev Sy.free:Sy:=aY 5
noncomputable abbrev Sy.closure:Sy:=aY 6
noncomputable abbrev Sy.fix:Sy:=aY 7
noncomputable abbrev Sy.prim:Sy:=aY 8
noncomputable abbrev Sy.d7:Sy:=aY 9
noncomputable abbrev Sy.dJ:Sy:=aY 10
noncomputable abbrev Sy.call:Sy:=aY 11
noncomputable abbrev Sy.give:Sy:=aY 12
noncomputable abbrev Sy.goto:Sy:=aY 13
noncomputable abbrev Sy.branch:Sy:=aY 14
noncomputable abbrev Sy.target:Sy:=aY 15
noncomputable abbrev Sy.constant:Sy:=aY 16
noncomputable abbrev Sy.source:Sy:=aY 17
noncomputable abbrev Sy.sources:Sy:=aY 18
noncomputable abbrev Sy.qt:Sy:=aY 19
noncomputable abbrev Sy.rows:Sy:=aY 20
noncomputable abbrev Sy.label:Sy:=aY 21
noncomputable abbrev Sy.qu:Sy:=aY 22
noncomputable abbrev Sy.u:Sy:=aY 23
noncomputable abbrev Sy.made:Sy:=aY 24
noncomputable abbrev Sy.l9:Sy:=aY 25
noncomputable abbrev Sy.test:Sy:=aY 26
noncomputable abbrev At:=Fin 35
noncomputable abbrev At.number:At:=aY 0
noncomputable abbrev At.title:At:=aY 1
noncomputable abbrev At.cJ:At:=aY 2
noncomputable abbrev At.cF:At:=aY 3
noncomputable abbrev At.aT:At:=aY 4
noncomputable abbrev At.cX:At:=aY 5
noncomputable abbrev At.free:At:=aY 6
noncomputable abbrev At.bv:At:=aY 7
noncomputable abbrev At.params:At:=aY 8
noncomputable abbrev At.ops:At:=aY 9
noncomputable abbrev At.eZ:At:=aY 10
noncomputable abbrev At.entry:At:=aY 11
noncomputable abbrev At.count:At:=aY 12
noncomputable abbrev At.blocks:At:=aY 13
noncomputable abbrev At.fresh:At:=aY 14
noncomputable abbrev At.sources:At:=aY 15
noncomputable abbrev At.cv:At:=aY 16
noncomputable abbrev At.eu:At:=aY 17
noncomputable abbrev At.take:At:=aY 18
noncomputable abbrev At.dK:At:=aY 19
noncomputable abbrev At.cS:At:=aY 20
noncomputable abbrev At.unit:At:=aY 21
noncomputable abbrev At.places:At:=aY 22
noncomputable abbrev At.starts:At:=aY 23
noncomputable abbrev At.vt:At:=aY 24
noncomputable abbrev At.eA:At:=aY 25
noncomputable abbrev At.here:At:=aY 26
noncomputable abbrev At.emit:At:=aY 27
noncomputable abbrev At.fB:At:=aY 28
noncomputable abbrev At.moves:At:=aY 29
noncomputable abbrev At.eh:At:=aY 30
noncomputable abbrev At.finished:At:=aY 31
noncomputable abbrev At.gj:At:=aY 32
noncomputable abbrev At.put:At:=aY 33
noncomputable abbrev At.off:At:=aY 34
inductive Ab where
 |dB|ct|dy|fC|ge|Apart|Places
 deriving DecidableEq
inductive V where
 |none|bool (b:Bool)|int (i:Int)|str (s:Sy)|tup (l:List V)|ref (a:Nat)
inductive Ak where
 |i (n:Int)|s (s:Sy)
 deriving DecidableEq
inductive O where
 |list (l:List V)
  |ao (es:List (Int×V))
  |b9 (es:List (List Ak×V))
 |inst (c:Ab) (fs:List (At×V))
noncomputable abbrev H:=Nat->Option O
noncomputable abbrev Fr:=List (Option V)
noncomputable def aC(h:H)(a:Nat)(o:O):H:=λ b=>if b=a then some o else h b
noncomputable def le(h h':H):Prop:=∀a o,h a=some o->h' a=some o
inductive wg where
 |add|sub|mul|fdiv|mod|bor|band|bxor|shl|shr
inductive Fh where
 |eq|ne|lt|le|gt|l9|kA|IK|M4
inductive I6 where
 |rev|init|tail
inductive Bi where
 |len|listOf|tupleOf|any|max|int|dictOf|append|extend|uA|iP|get
 deriving DecidableEq
noncomputable abbrev Fn:=Fin 62
noncomputable abbrev Fn.iA:Fn:=aY 0
noncomputable abbrev Fn.gp:Fn:=aY 1
noncomputable abbrev Fn.fJ:Fn:=aY 2
noncomputable abbrev Fn.dg:Fn:=aY 3
noncomputable abbrev Fn.je:Fn:=aY 4
noncomputable abbrev Fn.j9:Fn:=aY 5
noncomputable abbrev Fn.jf:Fn:=aY 6
noncomputable abbrev Fn.qv:Fn:=aY 7
noncomputable abbrev Fn.iv:Fn:=aY 8
noncomputable abbrev Fn.kg:Fn:=aY 9
noncomputable abbrev Fn.cv:Fn:=aY 10
noncomputable abbrev Fn.eu:Fn:=aY 11
noncomputable abbrev Fn.take:Fn:=aY 12
noncomputable abbrev Fn.dK:Fn:=aY 13
noncomputable abbrev Fn.cS:Fn:=aY 14
noncomputable abbrev Fn.n6:Fn:=aY 15
noncomputable abbrev Fn.jg:Fn:=aY 16
noncomputable abbrev Fn.n7:Fn:=aY 17
noncomputable abbrev Fn.cM:Fn:=aY 18
noncomputable abbrev Fn.qw:Fn:=aY 19
noncomputable abbrev Fn.kh:Fn:=aY 20
noncomputable abbrev Fn.here:Fn:=aY 21
noncomputable abbrev Fn.emit:Fn:=aY 22
noncomputable abbrev Fn.fB:Fn:=aY 23
noncomputable abbrev Fn.moves:Fn:=aY 24
noncomputable abbrev Fn.eh:Fn:=aY 25
noncomputable abbrev Fn.finished:Fn:=aY 26
noncomputable abbrev Fn.cX:Fn:=aY 27
noncomputable abbrev Fn.lY:Fn:=aY 28
noncomputable abbrev Fn.AH:Fn:=aY 29
noncomputable abbrev Fn.ki:Fn:=aY 30
noncomputable abbrev Fn.gg:Fn:=aY 31
noncomputable abbrev Fn.sa:Fn:=aY 32
noncomputable abbrev Fn.B1:Fn:=aY 33
noncomputable abbrev Fn.without:Fn:=aY 34
noncomputable abbrev Fn.iV:Fn:=aY 35
noncomputable abbrev Fn.j7:Fn:=aY 36
noncomputable abbrev Fn.lZ:Fn:=aY 37
noncomputable abbrev Fn.jh:Fn:=aY 38
noncomputable abbrev Fn.qx:Fn:=aY 39
noncomputable abbrev Fn.kj:Fn:=aY 40
noncomputable abbrev Fn.n8:Fn:=aY 41
noncomputable abbrev Fn.put:Fn:=aY 42
noncomputable abbrev Fn.AI:Fn:=aY 43
noncomputable abbrev Fn.tq:Fn:=aY 44
noncomputable abbrev Fn.l4:Fn:=aY 45
noncomputable abbrev Fn.qy:Fn:=aY 46
noncomputable abbrev Fn.rL:Fn:=aY 47
noncomputable abbrev Fn.km:Fn:=aY 48
noncomputable abbrev Fn.l5:Fn:=aY 49
noncomputable abbrev Fn.kq:Fn:=aY 50
noncomputable abbrev Fn.qz:Fn:=aY 51
noncomputable abbrev Fn.cG:Fn:=aY 52
noncomputable abbrev Fn.AJ:Fn:=aY 53
noncomputable abbrev Fn.dS:Fn:=aY 54
noncomputable abbrev Fn.gA:Fn:=aY 55
noncomputable abbrev Fn.tr:Fn:=aY 56
noncomputable abbrev Fn.gB:Fn:=aY 57
noncomputable abbrev Fn.wA:Fn:=aY 58
noncomputable abbrev Fn.tu:Fn:=aY 59
noncomputable abbrev Fn.wO:Fn:=aY 60
noncomputable abbrev Fn.MI:Fn:=aY 61
mutual
inductive Ex where
 |none|bool (b:Bool)|int (i:Int)|str (s:Sy)
  |qh (s:Sy)
 |var (bp:Nat)
 |attr (e:Ex) (a:At)
 |sub (e i:Ex)
 |Dt (i:Ex)
 |cut (e:Ex) (k:I6)
 |bin (o:wg) (l r:Ex)
 |cmp (o:Fh) (l r:Ex)
 |chain (l m r:Ex)
 |fG (ne:Bool) (e:Ex)
 |ju (ne:Bool) (e:Ex)
 |nU (l r:Ex)
 |or (es:Es)
 |and (es:Es)
 |not (e:Ex)
 |ite (c t f:Ex)
 |list (es:Es)
 |tup (es:Es)
 |lB (bx:Bool)
 |q0 (k v:Ex)
 |comp (gy:Ex) (bp:Nat) (it:It) (cond:Es)
 |call (f:Fn) (es:Es)
 |new (c:Ab) (es:Es)
 |eF (e:Ex) (m:At) (es:Es)
 |bi (b:Bi) (es:Es)
  |jt (b:Bi) (e:Ex) (es:Es)
  |gI (it:It)
inductive Es where
 |nil
 |cons (e:Ex) (es:Es)
inductive It where
 |of (e:Ex)
 |keys (e:Ex)
 |range (e:Ex)
 |zip (a b:Ex)
 |enum (e:Ex)
end
mutual
inductive St where
 |asg (bp:Nat) (e:Ex)
 |sH (slots:List Nat) (e:Ex)
 |cI (o:Ex) (a:At) (e:Ex)
 |fu (o i e:Ex)
 |ex (e:Ex)
 |ite (c:Ex) (t f:Ss)
 |wh (c:Ex) (b:Ss)
 |cz (slots:List Nat) (it:It) (b:Ss)
 |ret (e:Ex)
 |wall
inductive Ss where
 |nil
 |cons (s:St) (ss:Ss)
end
inductive Out where
 |next
 |ret (v:V)
noncomputable abbrev aZ:Nat:=1000000
noncomputable abbrev CS:=Fn->List V->(V->H->Prop)->H->Prop
noncomputable def aE{K:Type}[DecidableEq K](es:List (K×V))(k:K):Option V:=(es.find? λ kv=>kv.1=k).map (·.2)
noncomputable def dT{K:Type}[DecidableEq K](es:List (K×V))(k:K)(v:V):List (K×V):=
 if es.any (λ kv=>kv.1=k) then es.map (λ kv=>if kv.1=k then(kv.1,v) else kv) else es++[(k,v)]
noncomputable def xQ{K:Type}[DecidableEq K](es:List (K×V))(k:K):List (K×V):=es.filter λ kv=>decide (kv.1≠k)
noncomputable def M5:V->Option Ak
 | .int i=>some (.i i)
 | .str x=>some (.s x)
 |_=>Option.none
noncomputable def ib:List V->Option (List Ak)
 |[]=>some []
 |v::r=>(M5 v).bind λ k=>(ib r).map (k::·)
noncomputable def eM(fs:List (At×V))(a:At):Option V:=(fs.find? λ p=>decide (p.1=a)).map (·.2)
noncomputable def uB(a:At)(v:V):List (At×V)->List (At×V)
 |[]=>[(a,v)]
 |p::r=>if p.1=a then(a,v)::r else p::uB a v r
noncomputable def jH(l:List V)(i:Int):Option V:=if 0<=i then l[i.toNat]? else if-(l.length:Int)<=i then l[(i+l.length).toNat]? else Option.none
noncomputable def Gp:V->Prop
 | .bool _=>True
 |_=>False
noncomputable def B2:V->Prop
 | .int _=>True
 |_=>False
noncomputable abbrev oV(l:List V):Option (List V):=some l
noncomputable def fY(x:Sy):Option (List V):=CJ Option.none [oV [.str .target,.str .constant],oV [.str .target,.str .source],oV [.str .target,.str .global],oV [.str .global,.str .source],oV [.str .global,.str .source],oV [.str .target,.str .free],oV [.str .target,.str .qt,.str .sources],oV [.str .rows],oV [.str .target,.str .qu,.str .sources],oV [.str .label],oV [.str .source,.str .label],oV [.str .source,.str .source,.str .sources],oV [.str .source,.str .sources]] x.val
inductive D where
 |none|bool (b:Bool)|int (i:Int)|str (s:Sy)|tup (l:List D)|list (l:List D)
mutual
noncomputable def D.dp:D->Nat
 | .tup l=>D.IL l+1
 | .list l=>D.IL l+1
 |_=>0
noncomputable def D.IL:List D->Nat
 |[]=>0
 |d::ds=>Nat.max d.dp (D.IL ds)
end
mutual
noncomputable def E8 (h:H):D->V->Prop
 | .none,v=>v=.none
 | .bool b,v=>v=.bool b
 | .int i,v=>v=.int i
 | .str s,v=>v=.str s
 | .tup ds,v=>∃l,v=.tup l/\ny h ds l
 | .list ds,v=>∃a l,v=.ref a/\h a=some (.list l)/\ny h ds l
noncomputable def ny (h:H):List D->List V->Prop
 |[],l=>l=[]
 |d::ds,l=>∃v r,l=v::r/\E8 h d v/\ny h ds r
end
noncomputable def io(a b:Nat):Nat:=a|||b
noncomputable def uC(a b:Nat):Nat:=a&&&b
noncomputable def Du(a b:Nat):Nat:=a^^^b
noncomputable def wi(a b:Nat):Nat:=a>>>b
noncomputable def rB(n:Nat):Nat:=1<<<n
@[irreducible] noncomputable def eH(o:O)(Q:V->H->Prop)(h:H):Prop:=∀a,h a=Option.none->Q (.ref a) (aC h a o)
noncomputable def DL (b:Bool) (P R:Prop):Prop:=match b with|true=>P|false=>R
noncomputable def oL(v:V)(P:Prop):Prop:=match v with| .none=>P|_=>False
noncomputable def gJ(v:V)(Q:Bool->H->Prop)(h:H):Prop:=match v with| .bool b=>Q b h|_=>False
noncomputable def M6(o:wg)(a b:Int):Prop:=match o with
 | .add=>a.natAbs<2^62/\b.natAbs<2^62
 | .sub=>a.natAbs<2^62/\b.natAbs<2^62
 | .mul=>a.natAbs<2^30/\b.natAbs<2^30
 | .fdiv=>0<=a/\0<b/\a.natAbs<2^62/\b.natAbs<2^62
 | .mod=>0<b/\b.natAbs<2^62
 | .bor=>0<=a/\0<=b
 | .band=>0<=a/\0<=b
 | .bxor=>0<=a/\0<=b
 | .shl=>a=1/\0<=b/\b<100000
 | .shr=>0<=a/\0<=b/\b<100000
noncomputable def M7(o:wg)(a b:Int):Int:=match o with
 | .add=>a+b
 | .sub=>a-b
 | .mul=>a*b
 | .fdiv=>a/b
 | .mod=>a%b
 | .bor=>(io a.toNat b.toNat:Nat)
 | .band=>(uC a.toNat b.toNat:Nat)
 | .bxor=>(Du a.toNat b.toNat:Nat)
 | .shl=>(rB b.toNat:Nat)
 | .shr=>(wi a.toNat b.toNat:Nat)
noncomputable def TX(o:wg)(x y:Option O)(Q:V->H->Prop)(h:H):Prop:=∃l m,x=some (.list l)/\y=some (.list m)/\o=.add/\l.length+m.length<aZ/\eH (.list (l++m)) Q h
noncomputable def TY(o:wg)(x:Option O)(n:Int)(Q:V->H->Prop)(h:H):Prop:=∃v,x=some (.list [v])/\o=.mul/\0<=n/\n<aZ/\eH (.list (List.replicate n.toNat v)) Q h
@[irreducible] noncomputable def eG(o:wg)(v w:V)(Q:V->H->Prop)(h:H):Prop:=match v with
 | .int a=>(match w with| .int b=>M6 o a b/\Q (.int (M7 o a b)) h|_=>False)
 | .tup a=>(match w with| .tup b=>o=.add/\a.length+b.length<aZ/\Q (.tup (a++b)) h|_=>False)
 | .ref a=>(match w with| .ref b=>TX o (h a) (h b) Q h| .int n=>TY o (h a) n Q h|_=>False)
 |_=>False
noncomputable def TZ(v:V)(o:Option O)(Q:Bool->H->Prop)(h:H):Prop:=
 (∃a es,v=.int a/\o=some (.ao es)/\Q (aE es a).isSome h)
noncomputable def Jx(v:V)(o:Option O)(Q:Bool->H->Prop)(h:H):Prop:=
 (∃a es,v=.int a/\o=some (.ao es)/\Q (!(aE es a).isSome) h)\/
 (∃a l,v=.int a/\o=some (.list l)/\(∀v∈l,B2 v)/\l.length<aZ/\((V.int a∈l->Q false h)/\(V.int a∉l->Q true h)))\/
 (∃l k es,v=.tup l/\o=some (.b9 es)/\ib l=some k/\Q (!(aE es k).isSome) h)
noncomputable def yg(v w:V):Option Bool:=match v with
 | .int a=>(match w with| .int b=>some (decide (a=b))| .none=>some false|_=>Option.none)
 | .str a=>(match w with| .str b=>some (decide (a=b))|_=>Option.none)
 | .none=>(match w with| .none=>some true| .int _=>some false|_=>Option.none)
 |_=>Option.none
noncomputable def Ac(ne b:Bool):Bool:=match ne with|false=>b|true=>!b
noncomputable def OO(r:Option Bool)(ne:Bool)(Q:Bool->H->Prop)(h:H):Prop:=match r with|some b=>Q (Ac ne b) h|Option.none=>False
noncomputable def Dv(p:Int->Int->Bool)(v w:V)(Q:Bool->H->Prop)(h:H):Prop:=match v with| .int a=>(match w with| .int b=>Q (p a b) h|_=>False)|_=>False
noncomputable def I7(v w:V)(ne:Bool)(Q:Bool->H->Prop)(h:H):Prop:=match w with
 | .none=>(match v with| .none=>Q (!ne) h| .int _=>Q ne h| .str _=>Q ne h| .tup _=>Q ne h|_=>False)
 |_=>False
@[irreducible] noncomputable def iq(v w:V)(Q:Bool->H->Prop)(h:H):Prop:=match w with
 | .ref d=>Jx v (h d) Q h
 | .tup l=>∃a,v=.str a/\(∀v∈l,∃s,v=.str s)/\((V.str a∈l->Q false h)/\(V.str a∉l->Q true h))
 |_=>False
@[irreducible] noncomputable def OP(v w:V)(Q:Bool->H->Prop)(h:H):Prop:=match w with
 | .ref d=>TZ v (h d) Q h
 |_=>False
noncomputable def Pp(o:Fh)(v w:V)(Q:Bool->H->Prop)(h:H):Prop:=match o with
 | .eq=>OO (yg v w) false Q h
 | .ne=>OO (yg v w) true Q h
 | .lt=>Dv (λ a b=>decide (a<b)) v w Q h
 | .le=>Dv (λ a b=>decide (a<=b)) v w Q h
 | .gt=>Dv (λ a b=>decide (b<a)) v w Q h
 | .IK=>I7 v w false Q h
 | .M4=>I7 v w true Q h
 | .l9=>OP v w Q h
 | .kA=>iq v w Q h
noncomputable def wP(v w:V)(K:Int->Bool->Prop):Prop:=match v with| .int a=>(match w with| .int b=>K b (decide (a<=b))|_=>False)|_=>False
noncomputable def CV(b:Int)(v:V)(Q:V->H->Prop)(h:H):Prop:=match v with| .int c=>Q (.bool (decide (b<c))) h|_=>False
@[irreducible] noncomputable def sf(v:V)(ne:Bool)(Q:V->H->Prop)(h:H):Prop:=∃a l,v=.ref a/\h a=some (.list l)/\Q (.bool (Ac ne l.isEmpty)) h
@[irreducible] noncomputable def sn (v:V) (ne:Bool) (Q:V->H->Prop) (h:H):Prop:=∃a es,v=.ref a/\h a=some (.ao es)/\Q (.bool (Ac ne es.isEmpty)) h
@[irreducible] noncomputable def B3 (v w:V) (Q:V->H->Prop) (h:H):Prop:=(∃d:D,d.dp<=20/\E8 h d v/\E8 h d w)/\Q (.bool false) h
@[irreducible] noncomputable def yh (a:At) (v:V) (Q:V->H->Prop) (h:H):Prop:=∃x c fs w,v=.ref x/\h x=some (.inst c fs)/\eM fs a=some w/\Q w h
noncomputable def T1 (o:O) (i:V):Option V:=match o with
 | .list l=>(match i with| .int i=>jH l i|_=>Option.none)
 | .ao es=>(match i with| .int i=>aE es i|_=>Option.none)
 | .b9 es=>(match i with| .tup l=>(ib l).bind (aE es)|_=>Option.none)
 |_=>Option.none
@[irreducible] noncomputable def oD(v i:V)(Q:V->H->Prop)(h:H):Prop:=match v with
 | .tup l=>(match i with| .int i=>∃w,jH l i=some w/\Q w h|_=>False)
 | .ref a=>∃o w,h a=some o/\T1 o i=some w/\Q w h
 |_=>False
@[irreducible] noncomputable def B4(k:V)(Q:V->H->Prop)(h:H):Prop:=∃s l,k=.str s/\fY s=some l/\Q (.tup l) h
@[irreducible] noncomputable def sJ (k:I6) (v:V) (Q:V->H->Prop) (h:H):Prop:=match k with
 | .rev=>∃a l,v=.ref a/\h a=some (.list l)/\l.length<aZ/\eH (.list l.reverse) Q h
 | .tail=>∃l,v=.tup l/\0<l.length/\l.length<aZ/\Q (.tup l.tail) h
 | .init=>∃l,v=.tup l/\0<l.length/\l.length<aZ/\Q (.tup l.dropLast) h
noncomputable def T2(o:O)(i v:V):Option O:=match o with
 | .list l=>(match i with| .int i=>if 0<=i/\i<l.length then some (.list (l.set i.toNat v)) else Option.none|_=>Option.none)
 | .ao es=>(match i with| .int i=>if es.length<aZ then some (.ao (dT es i v)) else Option.none|_=>Option.none)
 | .b9 es=>(match i with| .tup l=>if es.length<aZ then(ib l).map (λ k=> .b9 (dT es k v)) else Option.none|_=>Option.none)
 |_=>Option.none
@[irreducible] noncomputable def nj(v i w:V)(K:H->Prop)(h:H):Prop:=∃a o o',v=.ref a/\h a=some o/\T2 o i w=some o'/\K (aC h a o')
noncomputable def Gq:V->Option (Int×V)
 | .tup [.int k,v]=>some (k,v)
 |_=>Option.none
noncomputable def c9:List V->Option (List (Int×V))
 |[]=>some []
 |v::r=>(Gq v).bind λ p=>(c9 r).map (p::·)
noncomputable def T3:O->Option Nat
 | .list l=>some l.length
 | .ao es=>some es.length
 | .b9 es=>some es.length
 |_=>Option.none
noncomputable def NG:O->Option (List V)
 | .list l=>some l
 | .ao es=>some (es.map λ p=> .int p.1)
 |_=>Option.none
@[irreducible] noncomputable def xS(v:V)(Q:V->H->Prop)(h:H):Prop:=∃a o n,v=.ref a/\h a=some o/\T3 o=some n/\n<aZ/\Q (.int n) h
@[irreducible] noncomputable def iR (v:V) (Q:V->H->Prop) (h:H):Prop:=match v with
 | .ref a=>∃o l,h a=some o/\NG o=some l/\l.length<aZ/\eH (.list l) Q h
 | .tup l=>l.length<aZ/\eH (.list l) Q h
 |_=>False
@[irreducible] noncomputable def ph(v:V)(Q:V->H->Prop)(h:H):Prop:=∃a l,v=.ref a/\h a=some (.list l)/\l.length<aZ/\Q (.tup l) h
@[irreducible] noncomputable def I8 (v:V) (Q:V->H->Prop) (h:H):Prop:=∃a l,v=.ref a/\h a=some (.list l)/\(∀v∈l,Gp v)/\l.length<aZ/\((V.bool true∈l->Q (.bool true) h)/\(V.bool true∉l->Q (.bool false) h))
noncomputable def Pq (v w:V) (Q:V->H->Prop) (h:H):Prop:=match v with| .int a=>(match w with| .int b=>Q (.int (Max.max a b)) h|_=>False)|_=>False
noncomputable def Pr(v:V)(Q:V->H->Prop)(h:H):Prop:=match v with| .bool b=>Q (.int (if b then 1 else 0)) h|_=>False
@[irreducible] noncomputable def oY(v:V)(Q:V->H->Prop)(h:H):Prop:=∃a l es,v=.ref a/\h a=some (.list l)/\l.length<aZ/\c9 l=some es/\(es.map (·.1)).Nodup/\eH (.ao es) Q h
@[irreducible] noncomputable def oZ (v w:V) (Q:V->H->Prop) (h:H):Prop:=∃a l,v=.ref a/\h a=some (.list l)/\l.length<aZ/\Q .none (aC h a (.list (l++[w])))
@[irreducible] noncomputable def mL (v w:V) (Q:V->H->Prop) (h:H):Prop:=∃a l,v=.ref a/\h a=some (.list l)/\match w with
 | .tup m=>l.length+m.length<aZ/\Q .none (aC h a (.list (l++m)))
 | .ref b=>a≠b/\∃m,h b=some (.list m)/\l.length+m.length<aZ/\Q .none (aC h a (.list (l++m)))
 |_=>False
@[irreducible] noncomputable def B5(v:V)(Q:V->H->Prop)(h:H):Prop:=∃a l w,v=.ref a/\h a=some (.list (l++[w]))/\l.length+1<aZ/\Q w (aC h a (.list l))
@[irreducible] noncomputable def oM (v k:V) (Q:V->H->Prop) (h:H):Prop:=
 (∃a w l,v=.ref a/\k=.int 0/\h a=some (.list (w::l))/\l.length+1<aZ/\Q w (aC h a (.list l)))\/
 (∃a es i w,v=.ref a/\k=.int i/\h a=some (.ao es)/\es.length<aZ/\aE es i=some w/\Q w (aC h a (.ao (xQ es i))))
@[irreducible] noncomputable def Fi(v k d:V)(Q:V->H->Prop)(h:H):Prop:=∃a es i,v=.ref a/\k=.int i/\d=.none/\h a=some (.ao es)/\Q ((aE es i).getD .none) h
noncomputable def xL (b:Bi) (v:V) (Q:V->H->Prop) (h:H):Prop:=match b with
 | .len=>xS v Q h
 | .listOf=>iR v Q h
 | .tupleOf=>ph v Q h
 | .any=>I8 v Q h
 | .int=>Pr v Q h
 | .dictOf=>oY v Q h
 | .uA=>B5 v Q h
 |_=>False
noncomputable def Ad(b:Bi)(v w:V)(Q:V->H->Prop)(h:H):Prop:=match b with
 | .max=>Pq v w Q h
 | .append=>oZ v w Q h
 | .extend=>mL v w Q h
 | .iP=>oM v w Q h
 |_=>False
noncomputable def MJ(b:Bi)(v w u:V)(Q:V->H->Prop)(h:H):Prop:=match b with
 | .get=>Fi v w u Q h
 |_=>False
noncomputable def CK(b:Bi)(l:List V)(Q:V->H->Prop)(h:H):Prop:=match l with
 |[v]=>xL b v Q h
 |[v,w]=>Ad b v w Q h
 |[v,w,u]=>MJ b v w u Q h
 |_=>False
noncomputable def B6:Ab->Fn
 | .dB=> .iA| .ct=> .je| .dy=> .j9| .fC=> .kg
 | .ge=> .kh| .Apart=> .n8| .Places=> .rL
noncomputable abbrev mF(a:At)(f:Fn):At×Fn:=(a,f)
noncomputable def Qr:Ab->List (At×Fn)
 | .dy=>[mF .fresh .jf]
 | .fC=>[mF .cv .cv,mF .eu .eu,mF .take .take,mF .dK .dK,mF .cS .cS]
 | .ge=>[mF .here .here,mF .emit .emit,mF .fB .fB,mF .moves .moves,mF .eh .eh,mF .finished .finished,mF .cX .cX]
 | .Apart=>[mF .put .put]
 |_=>[]
noncomputable def eW(c:Ab)(m:At):Option Fn:=((Qr c).find? λ p=>decide (p.1=m)).map (·.2)
@[irreducible] noncomputable def B7(v:V)(m:At)(K:Fn->Prop)(h:H):Prop:=∃x c fs f,v=.ref x/\h x=some (.inst c fs)/\eM fs m=Option.none/\eW c m=some f/\K f
@[irreducible] noncomputable def yi (v:V) (a:At) (w:V) (K:H->Prop) (h:H):Prop:=∃x c fs,v=.ref x/\h x=some (.inst c fs)/\eW c a=Option.none/\fs.length<100/\K (aC h x (.inst c (uB a w fs)))
noncomputable def yk (b:Bi) (o:O):Bool:=match o with
 | .list _=>(match b with| .append=>true| .extend=>true| .uA=>true| .iP=>true|_=>false)
 | .ao _=>(match b with| .get=>true| .iP=>true|_=>false)
 |_=>false
@[irreducible] noncomputable def qn(b:Bi)(v:V)(P:Prop)(h:H):Prop:=∃a o,v=.ref a/\h a=some o/\yk b o=true/\P
@[irreducible] noncomputable def sQ (v:V) (K:List V->(H->Prop)->H->Prop) (h:H):Prop:=match v with
 | .tup l=>l.length<aZ/\K l (λ u0=>True) h
 | .ref a=>∃l,h a=some (.list l)/\l.length<aZ/\K l (λ h'=>h' a=some (.list l)) h
 |_=>False
@[irreducible] noncomputable def yl(v:V)(K:List V->(H->Prop)->H->Prop)(h:H):Prop:=∃a es,v=.ref a/\h a=some (.ao es)/\es.length<aZ/\K (es.map λ p=> .int p.1) (λ h'=>h' a=some (.ao es)) h
noncomputable def FK (h:H) (v:V) (l:List V) (c:H->Prop):Prop:=(v=.tup l/\c=λ u0=>True)\/∃a,v=.ref a/\h a=some (.list l)/\c=λ h'=>h' a=some (.list l)
noncomputable def iQ(x y:List V):List V:=match x with
 |[]=>[]
 |a::x=>(match y with|[]=>[]|b::y=> .tup [a,b]::iQ x y)
noncomputable def iK(n:Int):List V->List V
 |a::x=> .tup [.int n,a]::iK (n+1) x
 |[]=>[]
noncomputable def dH(a:Int):Nat->List V
 |0=>[]
 |n+1=> .int a::dH (a+1) n
@[irreducible] noncomputable def nV(v:V)(K:List V->(H->Prop)->H->Prop)(h:H):Prop:=∃n:Nat,v=.int n/\n<aZ/\K (dH 0 n) (λ u0=>True) h
@[irreducible] noncomputable def sK (v w:V) (K:List V->(H->Prop)->H->Prop) (h:H):Prop:=∃x c y d,FK h v x c/\FK h w y d/\x.length<aZ/\y.length<aZ/\K (iQ x y) (λ h=>c h/\d h) h
@[irreducible] noncomputable def yn (v:V) (K:List V->(H->Prop)->H->Prop) (h:H):Prop:=∃a l,v=.ref a/\h a=some (.list l)/\l.length<aZ/\K (iK 0 l) (λ h'=>h' a=some (.list l)) h
noncomputable def lO (is:List Nat) (v:V) (fr:Fr):Option Fr:=match is with
 |[]=>Option.none
 |i::r=>(match r with
  |[]=>some (fr.set i (some v))
  |j::_=>(match v with
   | .tup l=>(match l with|[a,b]=>some ((fr.set i (some a)).set j (some b))|_=>Option.none)
   |_=>Option.none))
noncomputable def fD:List Nat->List V->Fr->Option Fr
 |[],l,fr=>(match l with|[]=>some fr|_=>Option.none)
 |i::is,l,fr=>(match l with|v::vs=>fD is vs (fr.set i (some v))|[]=>Option.none)
@[irreducible] noncomputable def iL(l:List V)(Q:V->H->Prop)(h:H):Prop:=l.length<aZ/\eH (.list l) Q h
@[irreducible] noncomputable def Fj (l:List V) (Q:V->H->Prop) (h:H):Prop:=l.length<aZ/\Q (.tup l) h
noncomputable def NH (t:Bool) (Q:V->H->Prop) (h:H):Prop:=match t with|true=>eH (.b9 []) Q h|false=>eH (.ao []) Q h
noncomputable def NI(k v:V)(Q:V->H->Prop)(h:H):Prop:=match k with| .int k=>eH (.ao [(k,v)]) Q h|_=>False
noncomputable def Fk(v:Option (Option V))(Q:V->H->Prop)(h:H):Prop:=match v with|some v=>(match v with|some v=>Q v h|Option.none=>False)|Option.none=>False
noncomputable def yp(is:List Nat)(v:V)(fr:Fr)(K:Fr->Prop):Prop:=match v with| .tup l=>(match fD is l fr with|some fj=>K fj|Option.none=>False)|_=>False
noncomputable def nW(fr:Option Fr)(K:Fr->Prop):Prop:=match fr with|some fr=>K fr|Option.none=>False
noncomputable def oO(o:Out)(K:Prop)(R:V->Prop):Prop:=match o with| .next=>K| .ret v=>R v
noncomputable abbrev Qs(Q:Out->Fr->H->Prop)(fr:Fr)(h:H):V->Prop:=λ v=>Q (.ret v) fr h
noncomputable abbrev Dw(X:Fr->(Out->Fr->H->Prop)->H->Prop)(Q:Out->Fr->H->Prop):Out->Fr->H->Prop:=λ o fr h=>oO o (X fr Q h) (Qs Q fr h)
noncomputable abbrev B8(f:Fr->(Out->Fr->H->Prop)->H->Prop)(K:Out->Fr->H->Prop)(h:H):Fr->Prop:=λ fr=>f fr K h
noncomputable abbrev WH(X:List V->(List V->H->Prop)->H->Prop)(acc:List V)(K:List V->H->Prop):V->H->Prop:=λ y h=>X (acc++[y]) K h
noncomputable abbrev kC(gy:Fr->(V->H->Prop)->H->Prop)(X:List V->(List V->H->Prop)->H->Prop)(fr:Fr)(acc:List V)(K:List V->H->Prop):Bool->H->Prop:=λ b h=>DL b (gy fr (WH X acc K) h) (X acc K h)
noncomputable abbrev NJ(f X:Fr->(Out->Fr->H->Prop)->H->Prop)(fr:Fr)(Q:Out->Fr->H->Prop):Bool->H->Prop:=λ b h=>DL b (f fr (Dw X Q) h) (Q .next fr h)
noncomputable abbrev LJ(f X:Fr->(Out->Fr->H->Prop)->H->Prop)(fr:Fr)(Q:Out->Fr->H->Prop):V->H->Prop:=λ v h=>gJ v (NJ f X fr Q) h
noncomputable def sZ(bp:Nat)(cond:Fr->(Bool->H->Prop)->H->Prop)(gy:Fr->(V->H->Prop)->H->Prop)(dG:H->Prop)(fr:Fr):List V->List V->(List V->H->Prop)->H->Prop
 |[],acc,K,h=>dG h/\K acc h
 |v::vs,acc,K,h=>dG h/\cond (fr.set bp (some v)) (kC gy (sZ bp cond gy dG fr vs) (fr.set bp (some v)) acc K) h
noncomputable def B9(is:List Nat)(b:Fr->(Out->Fr->H->Prop)->H->Prop)(dG:H->Prop):List V->Fr->(Out->Fr->H->Prop)->H->Prop
 |[],fr,Q,h=>dG h/\Q .next fr h
 |v::vs,fr,Q,h=>dG h/\nW (lO is v fr) (B8 b (Dw (B9 is b dG vs) Q) h)
noncomputable def so(Ds:Fr->(V->H->Prop)->H->Prop)(body:Fr->(Out->Fr->H->Prop)->H->Prop):Nat->Fr->(Out->Fr->H->Prop)->H->Prop
 |0,_,_,_=>False
 |n+1,fr,Q,h=>Ds fr (LJ body (so Ds body n) fr Q) h
@[irreducible] noncomputable def dY(bp:Nat)(cond:Fr->(Bool->H->Prop)->H->Prop)(gy:Fr->(V->H->Prop)->H->Prop)(dG:H->Prop)(fr:Fr)(vs acc:List V)(K:List V->H->Prop)(h:H):Prop:=sZ bp cond gy dG fr vs acc K h
@[irreducible] noncomputable def cw (is:List Nat) (b:Fr->(Out->Fr->H->Prop)->H->Prop) (dG:H->Prop) (vs:List V) (fr:Fr) (Q:Out->Fr->H->Prop) (h:H):Prop:=B9 is b dG vs fr Q h
@[irreducible] noncomputable def cj (Ds:Fr->(V->H->Prop)->H->Prop) (body:Fr->(Out->Fr->H->Prop)->H->Prop) (n:Nat) (fr:Fr) (Q:Out->Fr->H->Prop) (h:H):Prop:=so Ds body n fr Q h
theorem yE:@dY=@sZ:=by delta dY;rfl
theorem CW:@cw=@B9:=by delta cw;rfl
theorem DT:@cj=@so:=by delta cj;rfl
@[irreducible] noncomputable def ta(Ds:Fr->(V->H->Prop)->H->Prop)(body:Fr->(Out->Fr->H->Prop)->H->Prop)(fr:Fr)(Q:Out->Fr->H->Prop)(h:H):Prop:=∃n,cj Ds body n fr Q h
noncomputable abbrev FX:=Fr->(V->H->Prop)->H->Prop
noncomputable abbrev FL:=Fr->(List V->H->Prop)->H->Prop
noncomputable abbrev FB:=Fr->(Bool->H->Prop)->H->Prop
noncomputable abbrev FS:=Fr->(Out->Fr->H->Prop)->H->Prop
noncomputable abbrev Qt(a:At)(Q:V->H->Prop):V->H->Prop:=λ v h=>yh a v Q h
noncomputable abbrev Qu(v:V)(Q:V->H->Prop):V->H->Prop:=λ k h=>oD v k Q h
noncomputable abbrev T4(X:FX)(fr:Fr)(Q:V->H->Prop):V->H->Prop:=λ v h=>X fr (Qu v Q) h
noncomputable abbrev LK(Q:V->H->Prop):V->H->Prop:=λ k h=>B4 k Q h
noncomputable abbrev T5(k:I6)(Q:V->H->Prop):V->H->Prop:=λ v h=>sJ k v Q h
noncomputable abbrev Qw(o:wg)(v:V)(Q:V->H->Prop):V->H->Prop:=λ w h=>eG o v w Q h
noncomputable abbrev T6(o:wg)(X:FX)(fr:Fr)(Q:V->H->Prop):V->H->Prop:=λ v h=>X fr (Qw o v Q) h
noncomputable abbrev FM(Q:V->H->Prop):Bool->H->Prop:=λ b h=>Q (.bool b) h
noncomputable abbrev Qx(o:Fh)(v:V)(Q:V->H->Prop):V->H->Prop:=λ w h=>Pp o v w (FM Q) h
noncomputable abbrev T7(o:Fh)(X:FX)(fr:Fr)(Q:V->H->Prop):V->H->Prop:=λ v h=>X fr (Qx o v Q) h
noncomputable abbrev Ps(b:Int)(Q:V->H->Prop):V->H->Prop:=λ c h=>CV b c Q h
noncomputable abbrev T8(X:FX)(fr:Fr)(a:V)(Q:V->H->Prop):V->H->Prop:=λ b h=>wP a b λ b t=>DL t (X fr (Ps b Q) h) (Q (.bool false) h)
noncomputable abbrev T9(M X:FX)(fr:Fr)(Q:V->H->Prop):V->H->Prop:=λ a h=>M fr (T8 X fr a Q) h
noncomputable abbrev Pt(ne:Bool)(Q:V->H->Prop):V->H->Prop:=λ v h=>sf v ne Q h
noncomputable abbrev Pu(ne:Bool)(Q:V->H->Prop):V->H->Prop:=λ v h=>sn v ne Q h
noncomputable abbrev Gr(v:V)(Q:V->H->Prop):V->H->Prop:=λ w h=>B3 v w Q h
noncomputable abbrev Qy(X:FX)(fr:Fr)(Q:V->H->Prop):V->H->Prop:=λ v h=>X fr (Gr v Q) h
noncomputable abbrev Ua(Q:V->H->Prop):Bool->H->Prop:=λ b h=>Q (.bool (!b)) h
noncomputable abbrev Ub(Q:V->H->Prop):V->H->Prop:=λ v h=>gJ v (Ua Q) h
noncomputable abbrev Qz(X Y:FX)(fr:Fr)(Q:V->H->Prop):Bool->H->Prop:=λ b h=>DL b (X fr Q h) (Y fr Q h)
noncomputable abbrev Uc(X Y:FX)(fr:Fr)(Q:V->H->Prop):V->H->Prop:=λ v h=>gJ v (Qz X Y fr Q) h
noncomputable abbrev FN(Q:V->H->Prop):List V->H->Prop:=λ l h=>iL l Q h
noncomputable abbrev Ud(Q:V->H->Prop):List V->H->Prop:=λ l h=>Fj l Q h
noncomputable abbrev WI(k:V)(Q:V->H->Prop):V->H->Prop:=λ v h=>NI k v Q h
noncomputable abbrev WJ(X:FX)(fr:Fr)(Q:V->H->Prop):V->H->Prop:=λ k h=>X fr (WI k Q) h
noncomputable abbrev LM(bp:Nat)(X:FB)(Y:FX)(fr:Fr)(Q:V->H->Prop):List V->(H->Prop)->H->Prop:=λ items dG h=>dY bp X Y dG fr items [] (FN Q) h
noncomputable abbrev QA(C:CS)(f:Fn)(Q:V->H->Prop):List V->H->Prop:=λ l h=>C f l Q h
noncomputable abbrev LN(x:V)(Q:V->H->Prop):V->H->Prop:=λ r h=>oL r (Q x h)
noncomputable abbrev QC(C:CS)(c:Ab)(l:List V)(Q:V->H->Prop):V->H->Prop:=λ x h=>C (B6 c) (x::l) (LN x Q) h
noncomputable abbrev Ue(C:CS)(c:Ab)(Q:V->H->Prop):List V->H->Prop:=λ l h=>eH (.inst c []) (QC C c l Q) h
noncomputable abbrev Uf(C:CS)(f:Fn)(v:V)(Q:V->H->Prop):List V->H->Prop:=λ l h=>C f (v::l) Q h
noncomputable abbrev Ug(C:CS)(X:FL)(fr:Fr)(v:V)(Q:V->H->Prop)(h:H):Fn->Prop:=λ f=>X fr (Uf C f v Q) h
noncomputable abbrev Vs(C:CS)(m:At)(X:FL)(fr:Fr)(Q:V->H->Prop):V->H->Prop:=λ v h=>B7 v m (Ug C X fr v Q h) h
noncomputable abbrev WL(b:Bi)(Q:V->H->Prop):List V->H->Prop:=λ l h=>CK b l Q h
noncomputable abbrev Uh(b:Bi)(v:V)(Q:V->H->Prop):List V->H->Prop:=λ l h=>CK b (v::l) Q h
noncomputable abbrev Vt(b:Bi)(X:FL)(fr:Fr)(Q:V->H->Prop):V->H->Prop:=λ v h=>qn b v (X fr (Uh b v Q) h) h
noncomputable abbrev Ui(Q:V->H->Prop):List V->(H->Prop)->H->Prop:=λ items u0 h=>iL items Q h
noncomputable abbrev NK(v:V)(Q:List V->H->Prop):List V->H->Prop:=λ l h=>Q (v::l) h
noncomputable abbrev QD(X:FL)(fr:Fr)(Q:List V->H->Prop):V->H->Prop:=λ v h=>X fr (NK v Q) h
noncomputable abbrev Uj(X:FB)(fr:Fr)(Q:Bool->H->Prop):Bool->H->Prop:=λ b h=>DL b (Q true h) (X fr Q h)
noncomputable abbrev WM(X:FB)(fr:Fr)(Q:Bool->H->Prop):V->H->Prop:=λ v h=>gJ v (Uj X fr Q) h
noncomputable abbrev QE(X:FB)(fr:Fr)(Q:Bool->H->Prop):Bool->H->Prop:=λ b h=>DL b (X fr Q h) (Q false h)
noncomputable abbrev Uk(X:FB)(fr:Fr)(Q:Bool->H->Prop):V->H->Prop:=λ v h=>gJ v (QE X fr Q) h
noncomputable abbrev QF(K:List V->(H->Prop)->H->Prop):V->H->Prop:=λ v h=>sQ v K h
noncomputable abbrev QG(K:List V->(H->Prop)->H->Prop):V->H->Prop:=λ v h=>yl v K h
noncomputable abbrev NL(K:List V->(H->Prop)->H->Prop):V->H->Prop:=λ v h=>nV v K h
noncomputable abbrev QH(K:List V->(H->Prop)->H->Prop):V->H->Prop:=λ v h=>yn v K h
noncomputable abbrev QI(v:V)(K:List V->(H->Prop)->H->Prop):V->H->Prop:=λ w h=>sK v w K h
noncomputable abbrev Ul(X:FX)(fr:Fr)(K:List V->(H->Prop)->H->Prop):V->H->Prop:=λ v h=>X fr (QI v K) h
noncomputable abbrev Um(i:Nat)(fr:Fr)(Q:Out->Fr->H->Prop):V->H->Prop:=λ v h=>Q .next (fr.set i (some v)) h
noncomputable abbrev WN(Q:Out->Fr->H->Prop)(h:H):Fr->Prop:=λ fr=>Q .next fr h
noncomputable abbrev QJ(is:List Nat)(fr:Fr)(Q:Out->Fr->H->Prop):V->H->Prop:=λ v h=>yp is v fr (WN Q h)
noncomputable abbrev Vu(fr:Fr)(Q:Out->Fr->H->Prop):H->Prop:=λ h=>Q .next fr h
noncomputable abbrev Pw(a:At)(v:V)(fr:Fr)(Q:Out->Fr->H->Prop):V->H->Prop:=λ x h=>yi x a v (Vu fr Q) h
noncomputable abbrev WO(X:FX)(a:At)(fr:Fr)(Q:Out->Fr->H->Prop):V->H->Prop:=λ v h=>X fr (Pw a v fr Q) h
noncomputable abbrev Uo(x v:V)(fr:Fr)(Q:Out->Fr->H->Prop):V->H->Prop:=λ k h=>nj x k v (Vu fr Q) h
noncomputable abbrev Up(X:FX)(v:V)(fr:Fr)(Q:Out->Fr->H->Prop):V->H->Prop:=λ x h=>X fr (Uo x v fr Q) h
noncomputable abbrev WP(Y X:FX)(fr:Fr)(Q:Out->Fr->H->Prop):V->H->Prop:=λ v h=>Y fr (Up X v fr Q) h
noncomputable abbrev Vv(fr:Fr)(Q:Out->Fr->H->Prop):V->H->Prop:=λ v h=>oL v (Q .next fr h)
noncomputable abbrev Uq(X Y:FS)(fr:Fr)(Q:Out->Fr->H->Prop):Bool->H->Prop:=λ b h=>DL b (X fr Q h) (Y fr Q h)
noncomputable abbrev WQ(X Y:FS)(fr:Fr)(Q:Out->Fr->H->Prop):V->H->Prop:=λ v h=>gJ v (Uq X Y fr Q) h
noncomputable abbrev Px(is:List Nat)(X:FS)(fr:Fr)(Q:Out->Fr->H->Prop):List V->(H->Prop)->H->Prop:=λ items dG h=>cw is X dG items fr Q h
noncomputable abbrev Ur(fr:Fr)(Q:Out->Fr->H->Prop):V->H->Prop:=λ v h=>Q (.ret v) fr h
mutual
noncomputable def wE (C:CS):Ex->Fr->(V->H->Prop)->H->Prop
 | .none,_,Q,h=>Q .none h
 | .bool b,_,Q,h=>Q (.bool b) h
 | .int i,_,Q,h=>Q (.int i) h
 | .str s,_,Q,h=>Q (.str s) h
 | .qh s,_,Q,h=>Q (.str s) h
 | .var i,fr,Q,h=>Fk fr[i]? Q h
 | .attr e a,fr,Q,h=>wE C e fr (Qt a Q) h
 | .sub e i,fr,Q,h=>wE C e fr (T4 (wE C i) fr Q) h
 | .Dt i,fr,Q,h=>wE C i fr (LK Q) h
 | .cut e k,fr,Q,h=>wE C e fr (T5 k Q) h
 | .bin o l r,fr,Q,h=>wE C l fr (T6 o (wE C r) fr Q) h
 | .cmp o l r,fr,Q,h=>wE C l fr (T7 o (wE C r) fr Q) h
 | .chain l m r,fr,Q,h=>wE C l fr (T9 (wE C m) (wE C r) fr Q) h
 | .fG ne e,fr,Q,h=>wE C e fr (Pt ne Q) h
 | .ju ne e,fr,Q,h=>wE C e fr (Pu ne Q) h
 | .nU l r,fr,Q,h=>wE C l fr (Qy (wE C r) fr Q) h
 | .or es,fr,Q,h=>SQ C es fr (FM Q) h
 | .and es,fr,Q,h=>kJ C es fr (FM Q) h
 | .not e,fr,Q,h=>wE C e fr (Ub Q) h
 | .ite c t f,fr,Q,h=>wE C c fr (Uc (wE C t) (wE C f) fr Q) h
 | .list es,fr,Q,h=>IT C es fr (FN Q) h
 | .tup es,fr,Q,h=>IT C es fr (Ud Q) h
 | .lB bx,_,Q,h=>NH bx Q h
 | .q0 k v,fr,Q,h=>wE C k fr (WJ (wE C v) fr Q) h
 | .comp gy bp it cond,fr,Q,h=>R7 C it fr (LM bp (kJ C cond) (wE C gy) fr Q) h
 | .call f es,fr,Q,h=>IT C es fr (QA C f Q) h
 | .new c es,fr,Q,h=>IT C es fr (Ue C c Q) h
 | .eF e m es,fr,Q,h=>wE C e fr (Vs C m (IT C es) fr Q) h
 | .bi b es,fr,Q,h=>IT C es fr (WL b Q) h
 | .jt b e es,fr,Q,h=>wE C e fr (Vt b (IT C es) fr Q) h
 | .gI it,fr,Q,h=>R7 C it fr (Ui Q) h
noncomputable def IT (C:CS):Es->Fr->(List V->H->Prop)->H->Prop
 | .nil,_,Q,h=>Q [] h
 | .cons e es,fr,Q,h=>wE C e fr (QD (IT C es) fr Q) h
noncomputable def SQ (C:CS):Es->Fr->(Bool->H->Prop)->H->Prop
 | .nil,_,Q,h=>Q false h
 | .cons e es,fr,Q,h=>wE C e fr (WM (SQ C es) fr Q) h
noncomputable def kJ (C:CS):Es->Fr->(Bool->H->Prop)->H->Prop
 | .nil,_,Q,h=>Q true h
 | .cons e es,fr,Q,h=>wE C e fr (Uk (kJ C es) fr Q) h
noncomputable def R7 (C:CS):It->Fr->(List V->(H->Prop)->H->Prop)->H->Prop
 | .of e,fr,K,h=>wE C e fr (QF K) h
 | .keys e,fr,K,h=>wE C e fr (QG K) h
 | .range e,fr,K,h=>wE C e fr (NL K) h
 | .zip a b,fr,K,h=>wE C a fr (Ul (wE C b) fr K) h
 | .enum e,fr,K,h=>wE C e fr (QH K) h
end
mutual
noncomputable def wS (C:CS):St->Fr->(Out->Fr->H->Prop)->H->Prop
 | .asg i e,fr,Q,h=>wE C e fr (Um i fr Q) h
 | .sH is e,fr,Q,h=>wE C e fr (QJ is fr Q) h
 | .cI o a e,fr,Q,h=>wE C e fr (WO (wE C o) a fr Q) h
 | .fu o i e,fr,Q,h=>wE C e fr (WP (wE C o) (wE C i) fr Q) h
 | .ex e,fr,Q,h=>wE C e fr (Vv fr Q) h
 | .ite c t f,fr,Q,h=>wE C c fr (WQ (wB C t) (wB C f) fr Q) h
 | .wh c b,fr,Q,h=>ta (wE C c) (wB C b) fr Q h
 | .cz is it b,fr,Q,h=>R7 C it fr (Px is (wB C b) fr Q) h
 | .ret e,fr,Q,h=>wE C e fr (Ur fr Q) h
 | .wall,_,_,_=>False
noncomputable def wB (C:CS):Ss->Fr->(Out->Fr->H->Prop)->H->Prop
 | .nil,fr,Q,h=>Q .next fr h
 | .cons s ss,fr,Q,h=>wS C s fr (Dw (wB C ss) Q) h
end
structure Def where
 arity:Nat
 slots:Nat
 body:Ss
noncomputable def Out.val:Out->V
 | .next=> .none
 | .ret v=>v
@[irreducible] noncomputable def eO(o:Out)(Q:V->H->Prop)(h':H):Prop:=∃oA,le oA h'/\Q o.val oA
noncomputable abbrev q5 (Q:V->H->Prop):Out->Fr->H->Prop:=λ o u0 h=>eO o Q h
noncomputable def yF(B:Fn->Def):Nat->CS
 |0=>λ u0 u0 u0 u0=>False
 |n+1=>λ f mD Q h=>mD.length=(B f).arity/\
   wB (yF B n) (B f).body (mD.map some++List.replicate ((B f).slots-(B f).arity) Option.none) (q5 Q) h
@[irreducible] noncomputable def ah(B:Fn->Def)(n:Nat):CS:=yF B n
theorem bJ {B:Fn->Def} {Q:V->H->Prop} (e:mD.length=(B f).arity)
  (x:wB (ah B n) (B f).body (mD.map some++List.replicate ((B f).slots-(B f).arity) Option.none) (q5 Q) h):ah B (n+1) f mD Q h:=by
 unfold ah at x⊢;exact⟨e,x⟩
theorem xh{B:Fn->Def}{Q:V->H->Prop}(x:ah B (n+1) f mD Q h):mD.length=(B f).arity/\
  wB (ah B n) (B f).body (mD.map some++List.replicate ((B f).slots-(B f).arity) Option.none) (q5 Q) h:=by
 unfold ah at x⊢;exact x
theorem xi{B:Fn->Def}{Q:V->H->Prop}(x:ah B 0 f mD Q h):False:=by
 unfold ah at x;exact x
end
noncomputable def lq:Es:=.nil
noncomputable def qN:Ss:=
 (.cons (.cI (.var 0) .number (.var 1)) (
 .cons (.cI (.var 0) .title (.var 2)) (
 .cons (.cI (.var 0) .cJ (.var 3)) (
 .cons (.cI (.var 0) .cF (.var 4)) (
 .cons (.cI (.var 0) .aT (.var 5)) (
 .cons (.cI (.var 0) .cX (.var 6)) (
 .cons (.cI (.var 0) .free (.var 7)) (
 .cons (.cI (.var 0) .bv (.var 8)) (.nil)))))))))
noncomputable def rW:Ss:=
 (.cons (.ret (.gI (.zip (.Dt (.sub (.var 0) (.int 0))) (.cut (.var 0) .tail)))) (.nil))
noncomputable def mY:Ex:=
 (.sub (.var 6) (.int 0))
noncomputable def mZ:Es:=
 (.cons (.cmp .kA (.var 7) (.var 4)) .nil)
noncomputable def m4:Ex:=
 (.var 7)
noncomputable def m5:Ss:=
 (.cons (.ex (.jt .extend (.var 1) (.cons (.comp m4 7 (.of (.sub (.var 5) (.int 2))) mZ) .nil))) (.nil))
noncomputable def m6:Ss:=
 (.cons (.ite (.cmp .eq (.var 2) (.str .source))
  (.cons (.ex (.jt .append (.var 1) (.cons (.var 3) .nil))) (.nil))
  (.cons (.ite (.cmp .eq (.var 2) (.str .sources))
   (.cons (.ex (.jt .extend (.var 1) (.cons (.var 3) .nil))) (.nil))
   (.cons (.ite (.cmp .eq (.var 2) (.str .rows))
    (.cons (.asg 4 (.comp mY 6 (.of (.var 3)) lq)) (
    .cons (.cz [5] (.of (.var 3)) m5) (.nil)))
    .nil) (.nil))) (.nil))) (.nil))
noncomputable def qO:Ss:=
 (.cons (.asg 1 (.list .nil)) (
 .cons (.cz [2,3] (.of (.call .gp (.cons (.var 0) .nil))) m6) (
 .cons (.ret (.var 1)) (.nil))))
noncomputable def kE:Ex:=
 (.sub (.var 4) (.int 0))
noncomputable def kG:Ss:=
 (.cons (.ite (.cmp .eq (.var 2) (.str .target))
  (.cons (.ex (.jt .append (.var 1) (.cons (.var 3) .nil))) (.nil))
  (.cons (.ite (.cmp .eq (.var 2) (.str .rows))
   (.cons (.ex (.jt .extend (.var 1) (.cons (.comp kE 4 (.of (.var 3)) lq) .nil))) (.nil))
   .nil) (.nil))) (.nil))
noncomputable def m7:Ss:=
 (.cons (.asg 1 (.list .nil)) (
 .cons (.cz [2,3] (.of (.call .gp (.cons (.var 0) .nil))) kG) (
 .cons (.ret (.var 1)) (.nil))))
noncomputable def rX:Ss:=
 (.cons (.cI (.var 0) .number (.var 1)) (
 .cons (.cI (.var 0) .params (.var 2)) (
 .cons (.cI (.var 0) .ops (.list .nil)) (
 .cons (.cI (.var 0) .eZ .none) (.nil)))))
noncomputable def tY:Ss:=
 (.cons (.cI (.var 0) .number (.var 1)) (
 .cons (.cI (.var 0) .title (.var 2)) (
 .cons (.cI (.var 0) .aT (.var 3)) (
 .cons (.cI (.var 0) .entry (.list .nil)) (
 .cons (.cI (.var 0) .cJ (.int 0)) (
 .cons (.cI (.var 0) .cF (.bool false)) (
 .cons (.cI (.var 0) .free (.int 0)) (
 .cons (.cI (.var 0) .count (.int 0)) (
 .cons (.cI (.var 0) .blocks (.list .nil)) (.nil))))))))))
noncomputable def rY:Ss:=
 (.cons (.cI (.var 0) .count (.bin .add (.attr (.var 0) .count) (.int 1))) (
 .cons (.ret (.bin .sub (.attr (.var 0) .count) (.int 1))) (.nil)))
noncomputable def zo:Ss:=
 (.cons (.ite (.cmp .eq (.sub (.var 0) (.int 0)) (.qh .call))
  (.cons (.ret (.bin .add (.list (.cons (.sub (.var 0) (.int 1)) (.cons (.sub (.var 0) (.int 2)) .nil))) (.bi .listOf (.cons (.sub (.var 0) (.int 3)) .nil)))) (.nil))
  .nil) (
 .cons (.ite (.cmp .eq (.sub (.var 0) (.int 0)) (.qh .give))
  (.cons (.ret (.bin .add (.list (.cons (.sub (.var 0) (.int 1)) .nil)) (.bi .listOf (.cons (.sub (.var 0) (.int 2)) .nil)))) (.nil))
  .nil) (
 .cons (.ret (.ite (.cmp .eq (.sub (.var 0) (.int 0)) (.qh .goto)) (.bi .listOf (.cons (.sub (.var 0) (.int 2)) .nil)) (.list (.cons (.sub (.var 0) (.int 1)) .nil)))) (.nil))))
noncomputable def xj:Ss:=
 (.cons (.ite (.cmp .eq (.sub (.var 0) (.int 0)) (.qh .goto))
  (.cons (.ret (.list (.cons (.sub (.var 0) (.int 1)) .nil))) (.nil))
  .nil) (
 .cons (.ret (.ite (.cmp .eq (.sub (.var 0) (.int 0)) (.qh .branch)) (.list (.cons (.sub (.var 0) (.int 2)) (.cons (.sub (.var 0) (.int 3)) .nil))) (.list .nil))) (.nil)))
noncomputable def i6:Ss:=
 (.cons (.ite (.cmp .ne (.var 3) (.var 4))
  (.cons (.fu (.attr (.var 0) .sources) (.var 3) (.var 4)) (.nil))
  .nil) (.nil))
noncomputable def tZ:Ss:=
 (.cons (.cI (.var 0) .sources (.lB false)) (
 .cons (.cz [3,4] (.zip (.var 1) (.var 2)) i6) (.nil)))
noncomputable def mc:Ex:=
 (.cmp .eq (.sub (.attr (.var 0) .sources) (.var 2)) (.var 1))
noncomputable def zp:Ss:=
 (.cons (.ret (.bi .any (.cons (.comp mc 2 (.keys (.attr (.var 0) .sources)) lq) .nil))) (.nil))
noncomputable def jy:Ss:=
 (.cons (.ite (.not (.eF (.var 0) .cv (.cons (.var 1) .nil)))
  (.cons (.ret (.var 1)) (.nil))
  .nil) (.nil))
noncomputable def uJ:Ss:=
 (.cons (.cz [1] (.keys (.attr (.var 0) .sources)) jy) (
 .cons (.ret .none) (.nil)))
noncomputable def NM:Ss:=
 (.cons (.ret (.jt .iP (.attr (.var 0) .sources) (.cons (.var 1) .nil))) (.nil))
noncomputable def t7:Ss:=
 (.cons (.ret (.sub (.bi .listOf (.cons (.attr (.var 0) .sources) .nil)) (.int 0))) (.nil))
noncomputable def m8:Ss:=
 (.cons (.ite (.cmp .eq (.sub (.attr (.var 0) .sources) (.var 3)) (.var 1))
  (.cons (.fu (.attr (.var 0) .sources) (.var 3) (.var 2)) (.nil))
  .nil) (.nil))
noncomputable def qP:Ss:=
 (.cons (.cz [3] (.of (.bi .listOf (.cons (.attr (.var 0) .sources) .nil))) m8) (.nil))
noncomputable def cY:Ex:=
 (.ju true (.attr (.var 3) .sources))
noncomputable def cZ:Ss:=
 (.cons (.asg 5 (.eF (.var 3) .eu .nil)) (
 .cons (.ite (.cmp .IK (.var 5) .none)
  (.cons (.asg 5 (.eF (.var 3) .dK .nil)) (
  .cons (.ex (.jt .append (.var 4) (.cons (.tup (.cons (.str .move) (.cons (.var 2) (.cons (.var 5) .nil)))) .nil))) (
  .cons (.ex (.eF (.var 3) .cS (.cons (.var 5) (.cons (.var 2) .nil)))) (.nil))))
  .nil) (
 .cons (.ex (.jt .append (.var 4) (.cons (.tup (.cons (.str .move) (.cons (.var 5) (.cons (.eF (.var 3) .take (.cons (.var 5) .nil)) .nil)))) .nil))) (.nil))))
noncomputable def xk:Ss:=
 (.cons (.asg 3 (.new .fC (.cons (.var 0) (.cons (.var 1) .nil)))) (
 .cons (.asg 4 (.list .nil)) (
 .cons (.wh cY cZ) (
 .cons (.ret (.var 4)) (.nil)))))
noncomputable def iF:Ex:=
 (.cmp .eq (.sub (.var 2) (.int 1)) (.var 1))
noncomputable def rZ:Ss:=
 (.cons (.ret (.bi .any (.cons (.comp iF 2 (.of (.var 0)) lq) .nil))) (.nil))
noncomputable def xm:Ss:=
 (.cons (.ret (.tup (.cons (.sub (.var 1) (.sub (.var 0) (.int 0))) (.cons (.sub (.var 0) (.int 1)) (.cons (.call .cM (.cons (.sub (.var 0) (.int 2)) (.cons (.var 1) .nil))) .nil))))) (.nil))
noncomputable def fM:Ex:=
 (.sub (.var 1) (.var 2))
noncomputable def t8:Ss:=
 (.cons (.ret (.bi .tupleOf (.cons (.comp fM 2 (.of (.var 0)) lq) .nil))) (.nil))
noncomputable def t9:Ex:=
 (.call .n7 (.cons (.var 3) (.cons (.var 1) .nil)))
noncomputable def zq:Ss:=
 (.cons (.asg 2 (.sub (.var 0) (.int 0))) (
 .cons (.ite (.or (.cons (.cmp .eq (.var 2) (.str .const)) (.cons (.cmp .eq (.var 2) (.str .global)) (.cons (.cmp .eq (.var 2) (.str .free)) .nil))))
  (.cons (.ret (.tup (.cons (.var 2) (.cons (.sub (.var 1) (.sub (.var 0) (.int 1))) (.cons (.sub (.var 0) (.int 2)) .nil))))) (.nil))
  .nil) (
 .cons (.ite (.or (.cons (.cmp .eq (.var 2) (.str .mR)) (.cons (.cmp .eq (.var 2) (.str .define)) .nil)))
  (.cons (.ret (.tup (.cons (.var 2) (.cons (.sub (.var 0) (.int 1)) (.cons (.sub (.var 1) (.sub (.var 0) (.int 2))) .nil))))) (.nil))
  .nil) (
 .cons (.ite (.or (.cons (.cmp .eq (.var 2) (.str .closure)) (.cons (.cmp .eq (.var 2) (.str .prim)) .nil)))
  (.cons (.ret (.tup (.cons (.var 2) (.cons (.sub (.var 1) (.sub (.var 0) (.int 1))) (.cons (.sub (.var 0) (.int 2)) (.cons (.call .cM (.cons (.sub (.var 0) (.int 3)) (.cons (.var 1) .nil))) .nil)))))) (.nil))
  .nil) (
 .cons (.ite (.cmp .eq (.var 2) (.str .move))
  (.cons (.ret (.tup (.cons (.var 2) (.cons (.sub (.var 1) (.sub (.var 0) (.int 1))) (.cons (.sub (.var 1) (.sub (.var 0) (.int 2))) .nil))))) (.nil))
  .nil) (
 .cons (.ret (.tup (.cons (.var 2) (.cons (.bi .tupleOf (.cons (.comp t9 3 (.of (.sub (.var 0) (.int 1))) lq) .nil)) .nil)))) (.nil)))))))
noncomputable def uc:Ss:=
 (.cons (.cI (.var 0) .unit (.var 1)) (
 .cons (.cI (.var 0) .places (.var 2)) (
 .cons (.cI (.var 0) .bv (.list .nil)) (
 .cons (.cI (.var 0) .starts (.lB false)) (
 .cons (.cI (.var 0) .vt (.list .nil)) (
 .cons (.cI (.var 0) .eA (.bool false)) (.nil)))))))
noncomputable def NN:Ss:=
 (.cons (.ret (.bi .len (.cons (.attr (.var 0) .bv) .nil))) (.nil))
noncomputable def NO:Ss:=
 (.cons (.ex (.jt .append (.attr (.var 0) .bv) (.cons (.var 1) .nil))) (.nil))
noncomputable def DU:Ss:=
 (.cons (.ex (.jt .append (.attr (.var 0) .vt) (.cons (.tup (.cons (.eF (.var 0) .here .nil) (.cons (.var 2) .nil))) .nil))) (
 .cons (.ex (.eF (.var 0) .emit (.cons (.var 1) .nil))) (.nil)))
noncomputable def n9:Ss:=
 (.cons (.ex (.eF (.var 0) .emit (.cons (.var 5) .nil))) (.nil))
noncomputable def Jy:Ss:=
 (.cons (.asg 3 (.attr (.attr (.var 0) .places) .off)) (
 .cons (.asg 4 (.call .n6 (.cons (.call .cM (.cons (.var 1) (.cons (.var 3) .nil))) (.cons (.call .cM (.cons (.var 2) (.cons (.var 3) .nil))) (.cons (.attr (.attr (.var 0) .places) .count) .nil))))) (
 .cons (.cI (.var 0) .eA (.or (.cons (.attr (.var 0) .eA) (.cons (.call .jg (.cons (.var 4) (.cons (.attr (.attr (.var 0) .places) .count) .nil))) .nil)))) (
 .cons (.cz [5] (.of (.var 4)) n9) (.nil)))))
noncomputable def kO:Ss:=
 (.cons (.ex (.eF (.var 0) .emit (.cons (.call .qw (.cons (.var 4) (.cons (.var 3) .nil))) .nil))) (.nil))
noncomputable def xn:Ss:=
 (.cons (.fu (.attr (.var 0) .starts) (.attr (.var 1) .number) (.eF (.var 0) .here .nil)) (
 .cons (.asg 3 (.attr (.attr (.var 0) .places) .off)) (
 .cons (.cz [4] (.of (.attr (.var 1) .ops)) kO) (
 .cons (.asg 5 (.attr (.var 1) .eZ)) (
 .cons (.ite (.cmp .eq (.sub (.var 5) (.int 0)) (.qh .call))
  (.cons (.ex (.eF (.var 0) .emit (.cons (.tup (.cons (.str .call) (.cons (.sub (.var 3) (.sub (.var 5) (.int 1))) (.cons (.sub (.var 3) (.sub (.var 5) (.int 2))) (.cons (.call .cM (.cons (.sub (.var 5) (.int 3)) (.cons (.var 3) .nil))) .nil))))) .nil))) (.nil))
  (.cons (.ite (.cmp .eq (.sub (.var 5) (.int 0)) (.qh .goto))
   (.cons (.ex (.eF (.var 0) .moves (.cons (.attr (.sub (.attr (.attr (.var 0) .unit) .blocks) (.sub (.var 5) (.int 1))) .params) (.cons (.sub (.var 5) (.int 2)) .nil)))) (
   .cons (.ite (.cmp .ne (.sub (.var 5) (.int 1)) (.var 2))
    (.cons (.ex (.eF (.var 0) .fB (.cons (.tup (.cons (.str .d7) (.cons (.int (-1)) .nil))) (.cons (.sub (.var 5) (.int 1)) .nil)))) (.nil))
    .nil) (.nil)))
   (.cons (.ite (.cmp .eq (.sub (.var 5) (.int 0)) (.qh .branch))
    (.cons (.ex (.eF (.var 0) .fB (.cons (.tup (.cons (.str .dJ) (.cons (.sub (.var 3) (.sub (.var 5) (.int 1))) (.cons (.int (-1)) .nil)))) (.cons (.sub (.var 5) (.int 3)) .nil)))) (
    .cons (.ite (.cmp .ne (.sub (.var 5) (.int 2)) (.var 2))
     (.cons (.ex (.eF (.var 0) .fB (.cons (.tup (.cons (.str .d7) (.cons (.int (-1)) .nil))) (.cons (.sub (.var 5) (.int 2)) .nil)))) (.nil))
     .nil) (.nil)))
    (.cons (.ex (.eF (.var 0) .emit (.cons (.tup (.cons (.str .give) (.cons (.sub (.var 3) (.sub (.var 5) (.int 1))) (.cons (.call .cM (.cons (.sub (.var 5) (.int 2)) (.cons (.var 3) .nil))) .nil)))) .nil))) (.nil))) (.nil))) (.nil))) (.nil))))))
noncomputable def ji:Ss:=
 (.cons (.fu (.var 1) (.var 2) (.bin .add (.cut (.sub (.var 1) (.var 2)) .init) (.tup (.cons (.sub (.attr (.var 0) .starts) (.var 3)) .nil)))) (.nil))
noncomputable def A6:Ss:=
 (.cons (.asg 1 (.bi .listOf (.cons (.attr (.var 0) .bv) .nil))) (
 .cons (.cz [2,3] (.of (.attr (.var 0) .vt)) ji) (
 .cons (.ret (.var 1)) (.nil))))
noncomputable def zr:Ss:=
 (.cons (.ret (.bin .add (.attr (.attr (.var 0) .places) .count) (.bi .int (.cons (.attr (.var 0) .eA) .nil)))) (.nil))
noncomputable def jz:Ss:=
 (.cons (.ite (.cmp .kA (.var 2) (.var 1))
  (.cons (.ret (.var 2)) (.nil))
  .nil) (.nil))
noncomputable def uK:Ss:=
 (.cons (.cz [2] (.of (.var 0)) jz) (
 .cons (.ret .none) (.nil)))
noncomputable def fo:Ex:=
 (.fG true (.var 3))
noncomputable def eB:Ex:=
 (.cmp .M4 (.var 4) .none)
noncomputable def iW:Ss:=
 (.cons (.ite (.and (.cons (.cmp .kA (.var 6) (.var 1)) (.cons (.cmp .ne (.var 6) (.var 4)) .nil)))
  (.cons (.ex (.jt .append (.var 3) (.cons (.var 6) .nil))) (.nil))
  .nil) (
 .cons (.fu (.var 1) (.var 6) (.bool true)) (.nil)))
noncomputable def eC:Ss:=
 (.cons (.ex (.jt .append (.var 2) (.cons (.var 4) .nil))) (
 .cons (.asg 5 (.call .iv (.cons (.attr (.sub (.attr (.var 0) .blocks) (.var 4)) .eZ) .nil))) (
 .cons (.asg 4 (.call .lY (.cons (.var 5) (.cons (.var 1) .nil)))) (
 .cons (.cz [6] (.of (.var 5)) iW) (.nil)))))
noncomputable def fq:Ss:=
 (.cons (.asg 4 (.jt .uA (.var 3) .nil)) (
 .cons (.wh eB eC) (.nil)))
noncomputable def GX:Ss:=
 (.cons (.asg 1 (.q0 (.int 0) (.bool true))) (
 .cons (.asg 2 (.list .nil)) (
 .cons (.asg 3 (.list (.cons (.int 0) .nil))) (
 .cons (.wh fo fq) (
 .cons (.ret (.var 2)) (.nil))))))
noncomputable def fN:Ss:=
 (.cons (.asg 6 (.ite (.cmp .lt (.bin .add (.var 4) (.int 1)) (.bi .len (.cons (.var 3) .nil))) (.sub (.var 3) (.bin .add (.var 4) (.int 1))) .none)) (
 .cons (.ex (.eF (.var 2) .eh (.cons (.sub (.attr (.var 0) .blocks) (.var 5)) (.cons (.var 6) .nil)))) (.nil)))
noncomputable def ud:Ss:=
 (.cons (.asg 2 (.new .ge (.cons (.var 0) (.cons (.var 1) .nil)))) (
 .cons (.asg 3 (.call .AH (.cons (.var 0) .nil))) (
 .cons (.cz [4,5] (.enum (.var 3)) fN) (
 .cons (.ret (.new .dB (.cons (.attr (.var 0) .number) (.cons (.attr (.var 0) .title) (.cons (.attr (.var 0) .cJ) (.cons (.attr (.var 0) .cF) (.cons (.attr (.var 0) .aT) (.cons (.eF (.var 2) .cX .nil) (.cons (.attr (.var 0) .free) (.cons (.eF (.var 2) .finished .nil) .nil)))))))))) (.nil)))))
noncomputable def pI:Ss:=
 (.cons (.asg 1 (.bin .bor (.var 1) (.bin .shl (.int 1) (.var 2)))) (.nil))
noncomputable def DV:Ss:=
 (.cons (.asg 1 (.int 0)) (
 .cons (.cz [2] (.of (.var 0)) pI) (
 .cons (.ret (.var 1)) (.nil))))
noncomputable def pJ:Ex:=
 (.cmp .gt (.bin .shr (.var 0) (.var 2)) (.int 0))
noncomputable def pK:Ss:=
 (.cons (.ite (.cmp .eq (.bin .band (.bin .shr (.var 0) (.var 2)) (.int 1)) (.int 1))
  (.cons (.ex (.jt .append (.var 1) (.cons (.var 2) .nil))) (.nil))
  .nil) (
 .cons (.asg 2 (.bin .add (.var 2) (.int 1))) (.nil)))
noncomputable def DW:Ss:=
 (.cons (.asg 1 (.list .nil)) (
 .cons (.asg 2 (.int 0)) (
 .cons (.wh pJ pK) (
 .cons (.ret (.var 1)) (.nil)))))
noncomputable def Jz:Ss:=
 (.cons (.ret (.cmp .eq (.bin .band (.bin .shr (.var 0) (.var 1)) (.int 1)) (.int 1))) (.nil))
noncomputable def DX:Ss:=
 (.cons (.ret (.bin .band (.var 0) (.bin .bxor (.var 0) (.var 1)))) (.nil))
noncomputable def jA:Ss:=
 (.cons (.asg 3 (.bin .bor (.var 3) (.call .without (.cons (.sub (.var 2) (.var 4)) (.cons (.call .gg (.cons (.attr (.sub (.attr (.var 0) .blocks) (.var 4)) .params) .nil)) .nil))))) (.nil))
noncomputable def uL:Ss:=
 (.cons (.asg 3 (.call .gg (.cons (.call .qv (.cons (.attr (.var 1) .eZ) .nil)) .nil))) (
 .cons (.cz [4] (.of (.call .iv (.cons (.attr (.var 1) .eZ) .nil))) jA) (
 .cons (.ret (.var 3)) (.nil))))
noncomputable def xo:Ss:=
 (.cons (.ret (.bin .bor (.call .without (.cons (.var 1) (.cons (.call .gg (.cons (.call .dg (.cons (.var 0) .nil)) .nil)) .nil))) (.call .gg (.cons (.call .fJ (.cons (.var 0) .nil)) .nil)))) (.nil))
noncomputable def jB:Ss:=
 (.cons (.ex (.jt .append (.var 4) (.cons (.var 3) .nil))) (
 .cons (.asg 3 (.call .j7 (.cons (.var 5) (.cons (.var 3) .nil)))) (.nil)))
noncomputable def uM:Ss:=
 (.cons (.asg 3 (.call .iV (.cons (.var 0) (.cons (.var 1) (.cons (.var 2) .nil))))) (
 .cons (.asg 4 (.list .nil)) (
 .cons (.cz [5] (.of (.cut (.attr (.var 1) .ops) .rev)) jB) (
 .cons (.ret (.cut (.var 4) .rev)) (.nil)))))
noncomputable def iG:Ss:=
 (.cons (.asg 3 (.call .j7 (.cons (.var 4) (.cons (.var 3) .nil)))) (.nil))
noncomputable def r0:Ss:=
 (.cons (.asg 3 (.call .iV (.cons (.var 0) (.cons (.var 1) (.cons (.var 2) .nil))))) (
 .cons (.cz [4] (.of (.cut (.attr (.var 1) .ops) .rev)) iG) (
 .cons (.ret (.var 3)) (.nil))))
noncomputable def md:Ex:=
 (.fG true (.var 2))
noncomputable def mh:Es:=
 (.cons (.cmp .kA (.var 6) (.var 2)) .nil)
noncomputable def mi:Ex:=
 (.var 6)
noncomputable def mj:Ss:=
 (.cons (.asg 4 (.jt .uA (.var 2) .nil)) (
 .cons (.asg 5 (.call .jh (.cons (.var 0) (.cons (.sub (.attr (.var 0) .blocks) (.var 4)) (.cons (.var 1) .nil))))) (
 .cons (.ite (.cmp .ne (.var 5) (.sub (.var 1) (.var 4)))
  (.cons (.fu (.var 1) (.var 4) (.var 5)) (
  .cons (.ex (.jt .extend (.var 2) (.cons (.comp mi 6 (.of (.sub (.var 3) (.var 4))) mh) .nil))) (.nil)))
  .nil) (.nil))))
noncomputable def zt:Ss:=
 (.cons (.asg 1 (.bin .mul (.list (.cons (.int 0) .nil)) (.bi .len (.cons (.attr (.var 0) .blocks) .nil)))) (
 .cons (.asg 2 (.gI (.range (.bi .len (.cons (.attr (.var 0) .blocks) .nil))))) (
 .cons (.asg 3 (.call .kj (.cons (.var 0) .nil))) (
 .cons (.wh md mj) (
 .cons (.ret (.var 1)) (.nil))))))
noncomputable def pR:Ex:=
 (.list .nil)
noncomputable def i7:Ss:=
 (.cons (.ite (.cmp .kA (.attr (.var 2) .number) (.sub (.var 1) (.var 3)))
  (.cons (.ex (.jt .append (.sub (.var 1) (.var 3)) (.cons (.attr (.var 2) .number) .nil))) (.nil))
  .nil) (.nil))
noncomputable def pS:Ss:=
 (.cons (.cz [3] (.of (.call .iv (.cons (.attr (.var 2) .eZ) .nil))) i7) (.nil))
noncomputable def ue:Ss:=
 (.cons (.asg 1 (.comp pR 4 (.of (.attr (.var 0) .blocks)) lq)) (
 .cons (.cz [2] (.of (.attr (.var 0) .blocks)) pS) (
 .cons (.ret (.var 1)) (.nil))))
noncomputable def xp:Ss:=
 (.cons (.cI (.var 0) .gj (.bin .mul (.list (.cons (.int 0) .nil)) (.var 1))) (.nil))
noncomputable def yG:Ss:=
 (.cons (.fu (.attr (.var 0) .gj) (.var 4) (.bin .bor (.sub (.attr (.var 0) .gj) (.var 4)) (.bin .shl (.int 1) (.var 1)))) (.nil))
noncomputable def QK:Ss:=
 (.cons (.asg 3 (.call .without (.cons (.var 2) (.cons (.bin .shl (.int 1) (.var 1)) .nil)))) (
 .cons (.fu (.attr (.var 0) .gj) (.var 1) (.bin .bor (.sub (.attr (.var 0) .gj) (.var 1)) (.var 3))) (
 .cons (.cz [4] (.of (.call .sa (.cons (.var 3) .nil))) yG) (.nil))))
noncomputable def rM:Ss:=
 (.cons (.ex (.eF (.var 0) .put (.cons (.var 5) (.cons (.var 4) .nil)))) (.nil))
noncomputable def GY:Ss:=
 (.cons (.asg 3 (.call .dg (.cons (.var 1) .nil))) (
 .cons (.asg 4 (.bin .bor (.var 2) (.call .gg (.cons (.var 3) .nil)))) (
 .cons (.ite (.cmp .eq (.sub (.var 1) (.int 0)) (.str .fix))
  (.cons (.asg 4 (.bin .bor (.var 4) (.call .gg (.cons (.call .fJ (.cons (.var 1) .nil)) .nil)))) (.nil))
  .nil) (
 .cons (.cz [5] (.of (.var 3)) rM) (.nil)))))
noncomputable def uN:Ss:=
 (.cons (.ex (.eF (.var 2) .put (.cons (.var 4) (.cons (.var 3) .nil)))) (.nil))
noncomputable def uP:Ss:=
 (.cons (.ex (.eF (.var 2) .put (.cons (.var 4) (.cons (.var 6) .nil)))) (.nil))
noncomputable def nE:Ss:=
 (.cons (.ex (.call .AI (.cons (.var 2) (.cons (.var 7) (.cons (.var 8) .nil))))) (.nil))
noncomputable def uQ:Ss:=
 (.cons (.asg 6 (.bin .bor (.call .gg (.cons (.attr (.var 5) .params) .nil)) (.sub (.var 1) (.attr (.var 5) .number)))) (
 .cons (.cz [4] (.of (.attr (.var 5) .params)) uP) (
 .cons (.cz [7,8] (.zip (.attr (.var 5) .ops) (.call .lZ (.cons (.var 0) (.cons (.var 5) (.cons (.var 1) .nil))))) nE) (.nil))))
noncomputable def A7:Ss:=
 (.cons (.asg 1 (.call .qx (.cons (.var 0) .nil))) (
 .cons (.asg 2 (.new .Apart (.cons (.attr (.var 0) .count) .nil))) (
 .cons (.asg 3 (.bin .bor (.call .gg (.cons (.attr (.var 0) .entry) .nil)) (.sub (.var 1) (.int 0)))) (
 .cons (.cz [4] (.of (.attr (.var 0) .entry)) uN) (
 .cons (.cz [5] (.of (.attr (.var 0) .blocks)) uQ) (
 .cons (.ret (.var 2)) (.nil)))))))
noncomputable def f8:Ss:=
 (.cons (.fu (.var 1) (.var 2) (.bool true)) (.nil))
noncomputable def qQ:Ss:=
 (.cons (.fu (.var 1) (.var 2) (.bool true)) (.nil))
noncomputable def qR:Ss:=
 (.cons (.fu (.var 1) (.var 2) (.bool true)) (.nil))
noncomputable def jC:Ss:=
 (.cons (.cz [2] (.of (.call .dg (.cons (.var 4) .nil))) qR) (.nil))
noncomputable def qS:Ss:=
 (.cons (.cz [2] (.of (.attr (.var 3) .params)) qQ) (
 .cons (.cz [4] (.of (.attr (.var 3) .ops)) jC) (.nil)))
noncomputable def uR:Ss:=
 (.cons (.asg 1 (.lB false)) (
 .cons (.cz [2] (.of (.attr (.var 0) .entry)) f8) (
 .cons (.cz [3] (.of (.attr (.var 0) .blocks)) qS) (
 .cons (.ret (.bi .listOf (.cons (.var 1) .nil))) (.nil)))))
noncomputable def uf:Ex:=
 (.list .nil)
noncomputable def mn:Ss:=
 (.cons (.ex (.jt .append (.sub (.var 1) (.var 3)) (.cons (.var 4) .nil))) (
 .cons (.ex (.jt .append (.sub (.var 1) (.var 4)) (.cons (.var 3) .nil))) (.nil)))
noncomputable def ug:Ss:=
 (.cons (.ite (.cmp .eq (.sub (.attr (.var 2) .eZ) (.int 0)) (.qh .goto))
  (.cons (.cz [3,4] (.zip (.sub (.attr (.var 2) .eZ) (.int 2)) (.attr (.sub (.attr (.var 0) .blocks) (.sub (.attr (.var 2) .eZ) (.int 1))) .params)) mn) (.nil))
  .nil) (.nil))
noncomputable def zv:Ss:=
 (.cons (.asg 1 (.comp uf 5 (.range (.attr (.var 0) .count)) lq)) (
 .cons (.cz [2] (.of (.attr (.var 0) .blocks)) ug) (
 .cons (.ret (.var 1)) (.nil))))
noncomputable def uS:Ss:=
 (.cons (.cI (.var 0) .off (.var 1)) (
 .cons (.cI (.var 0) .count (.var 2)) (.nil)))
noncomputable def i9:Ss:=
 (.cons (.ite (.cmp .l9 (.var 4) (.var 1))
  (.cons (.asg 3 (.bin .bor (.var 3) (.bin .shl (.int 1) (.sub (.var 1) (.var 4))))) (.nil))
  .nil) (.nil))
noncomputable def uh:Ss:=
 (.cons (.asg 3 (.int 0)) (
 .cons (.cz [4] (.of (.call .sa (.cons (.sub (.attr (.var 0) .gj) (.var 2)) .nil))) i9) (
 .cons (.ret (.var 3)) (.nil))))
noncomputable def jD:Ex:=
 (.call .B1 (.cons (.var 0) (.cons (.var 1) .nil)))
noncomputable def jE:Ss:=
 (.cons (.asg 1 (.bin .add (.var 1) (.int 1))) (.nil))
noncomputable def uT:Ss:=
 (.cons (.asg 1 (.int 0)) (
 .cons (.wh jD jE) (
 .cons (.ret (.var 1)) (.nil))))
noncomputable def ja:Ss:=
 (.cons (.ite (.and (.cons (.cmp .l9 (.var 5) (.var 1)) (.cons (.not (.call .B1 (.cons (.var 4) (.cons (.sub (.var 1) (.var 5)) .nil)))) .nil)))
  (.cons (.ret (.sub (.var 1) (.var 5))) (.nil))
  .nil) (.nil))
noncomputable def ui:Ss:=
 (.cons (.asg 4 (.call .km (.cons (.var 0) (.cons (.var 1) (.cons (.var 3) .nil))))) (
 .cons (.cz [5] (.of (.sub (.var 2) (.var 3))) ja) (
 .cons (.ret (.call .l5 (.cons (.var 4) .nil))) (.nil))))
noncomputable def mq:Ss:=
 (.cons (.fu (.var 3) (.var 5) (.var 4)) (.nil))
noncomputable def ms:Ss:=
 (.cons (.ite (.cmp .kA (.var 5) (.var 3))
  (.cons (.fu (.var 3) (.var 5) (.call .kq (.cons (.var 1) (.cons (.var 3) (.cons (.var 2) (.cons (.var 5) .nil)))))) (.nil))
  .nil) (.nil))
noncomputable def mu:Ss:=
 (.cons (.asg 6 (.bi .max (.cons (.var 6) (.cons (.bin .add (.sub (.var 3) (.var 5)) (.int 1)) .nil)))) (.nil))
noncomputable def zw:Ss:=
 (.cons (.asg 1 (.call .tq (.cons (.var 0) .nil))) (
 .cons (.asg 2 (.call .qy (.cons (.var 0) .nil))) (
 .cons (.asg 3 (.lB false)) (
 .cons (.cz [4,5] (.enum (.attr (.var 0) .entry)) mq) (
 .cons (.cz [5] (.of (.call .l4 (.cons (.var 0) .nil))) ms) (
 .cons (.asg 6 (.bi .len (.cons (.attr (.var 0) .entry) .nil))) (
 .cons (.cz [5] (.keys (.var 3)) mu) (
 .cons (.ret (.new .Places (.cons (.var 3) (.cons (.var 6) .nil)))) (.nil)))))))))
noncomputable def A8:Ss:=
 (.cons (.fu (.var 0) (.int 1) (.bin .add (.sub (.var 0) (.int 1)) (.int 1))) (
 .cons (.ite (.cmp .le (.sub (.var 0) (.int 1)) (.bi .len (.cons (.sub (.var 0) (.int 0)) .nil)))
  (.cons (.ret (.bin .mod (.sub (.sub (.var 0) (.int 0)) (.bin .sub (.sub (.var 0) (.int 1)) (.int 1))) (.var 1))) (.nil))
  .nil) (
 .cons (.ret (.bin .mod (.bin .fdiv (.bin .add (.bin .add (.bin .mul (.bin .mul (.sub (.var 0) (.int 1)) (.sub (.var 0) (.int 1))) (.int 31)) (.bin .mul (.int 17) (.sub (.var 0) (.int 1)))) (.bin .mul (.int 5) (.bi .len (.cons (.sub (.var 0) (.int 0)) .nil)))) (.int 7)) (.var 1))) (.nil))))
noncomputable def zx:Ex:=
 (.sub (.var 2) (.call .cG (.cons (.var 0) (.cons (.bi .len (.cons (.var 2) .nil)) .nil))))
noncomputable def GZ:Ss:=
 (.cons (.sH [3,4] (.tup (.cons (.call .cG (.cons (.var 0) (.cons (.int 6) .nil))) (.cons (.comp zx 7 (.range (.int 2)) lq) .nil)))) (
 .cons (.ite (.cmp .eq (.var 3) (.int 5))
  (.cons (.ret (.tup (.cons (.str .define) (.cons (.call .cG (.cons (.var 0) (.cons (.int 2) .nil))) (.cons (.sub (.var 4) (.int 0)) .nil))))) (.nil))
  .nil) (
 .cons (.asg 5 (.eF (.var 1) .fresh .nil)) (
 .cons (.ex (.jt .append (.var 2) (.cons (.var 5) .nil))) (
 .cons (.ite (.cmp .eq (.var 3) (.int 0))
  (.cons (.ret (.tup (.cons (.str .const) (.cons (.var 5) (.cons (.call .cG (.cons (.var 0) (.cons (.int 3) .nil))) .nil))))) (.nil))
  .nil) (
 .cons (.ite (.cmp .eq (.var 3) (.int 1))
  (.cons (.ret (.tup (.cons (.str .free) (.cons (.var 5) (.cons (.call .cG (.cons (.var 0) (.cons (.int 2) .nil))) .nil))))) (.nil))
  .nil) (
 .cons (.ite (.cmp .eq (.var 3) (.int 4))
  (.cons (.asg 6 (.eF (.var 1) .fresh .nil)) (
  .cons (.ex (.jt .append (.var 2) (.cons (.var 6) .nil))) (
  .cons (.ret (.tup (.cons (.str .fix) (.cons (.tup (.cons (.tup (.cons (.var 5) (.cons (.int 0) (.cons (.tup (.cons (.var 6) (.cons (.sub (.var 4) (.int 0)) .nil))) .nil)))) (.cons (.tup (.cons (.var 6) (.cons (.int 1) (.cons (.tup (.cons (.var 5) (.cons (.sub (.var 4) (.int 1)) .nil))) .nil)))) .nil))) .nil)))) (.nil))))
  .nil) (
 .cons (.ret (.tup (.cons (.ite (.cmp .eq (.var 3) (.int 2)) (.str .prim) (.str .closure)) (.cons (.var 5) (.cons (.call .cG (.cons (.var 0) (.cons (.int 3) .nil))) (.cons (.bi .tupleOf (.cons (.var 4) .nil)) .nil)))))) (.nil)))))))))
noncomputable def mx:Ss:=
 (.cons (.ex (.jt .append (.attr (.var 5) .ops) (.cons (.call .AJ (.cons (.var 0) (.cons (.var 1) (.cons (.var 2) .nil)))) .nil))) (.nil))
noncomputable def zy:Ss:=
 (.cons (.asg 5 (.new .ct (.cons (.bi .len (.cons (.attr (.var 1) .blocks) .nil)) (.cons (.var 3) .nil)))) (
 .cons (.ex (.jt .append (.attr (.var 1) .blocks) (.cons (.var 5) .nil))) (
 .cons (.ex (.jt .extend (.var 2) (.cons (.var 3) .nil))) (
 .cons (.cz [6] (.range (.bin .add (.var 4) (.call .cG (.cons (.var 0) (.cons (.int 2) .nil))))) mx) (
 .cons (.ret (.var 5)) (.nil))))))
noncomputable def nF:Ex:=
 (.sub (.var 1) (.call .cG (.cons (.var 0) (.cons (.bi .len (.cons (.var 1) .nil)) .nil))))
noncomputable def A9:Ss:=
 (.cons (.ret (.bi .tupleOf (.cons (.comp nF 3 (.range (.var 2)) lq) .nil))) (.nil))
noncomputable def uU:Ex:=
 (.eF (.var 1) .fresh .nil)
noncomputable def nG:Ss:=
 (.cons (.asg 7 (.bi .listOf (.cons (.var 2) .nil))) (
 .cons (.asg 8 (.call .dS (.cons (.var 0) (.cons (.var 1) (.cons (.var 7) (.cons (.list .nil) (.cons (.int 0) .nil))))))) (
 .cons (.cI (.var 8) .eZ (.tup (.cons (.str .goto) (.cons (.int 3) (.cons (.call .gA (.cons (.var 0) (.cons (.var 7) (.cons (.var 5) .nil)))) .nil))))) (.nil))))
noncomputable def uV:Ex:=
 (.eF (.var 1) .fresh .nil)
noncomputable def uW:Ex:=
 (.eF (.var 1) .fresh .nil)
noncomputable def iB:Ss:=
 (.cons (.asg 9 (.call .dS (.cons (.var 0) (.cons (.var 1) (.cons (.var 2) (.cons (.list .nil) (.cons (.int 0) .nil))))))) (
 .cons (.cI (.var 9) .eZ (.tup (.cons (.str .give) (.cons (.sub (.var 2) (.int 0)) (.cons (.call .gA (.cons (.var 0) (.cons (.var 2) (.cons (.int 3) .nil)))) .nil))))) (
 .cons (.ret (.var 1)) (.nil))))
noncomputable def nH:Ss:=
 (.cons (.asg 4 (.call .dS (.cons (.var 0) (.cons (.var 1) (.cons (.var 2) (.cons (.list .nil) (.cons (.int 1) .nil))))))) (
 .cons (.ite (.cmp .eq (.var 3) (.int 0))
  (.cons (.cI (.var 4) .eZ (.tup (.cons (.str .give) (.cons (.sub (.var 2) (.int (-1))) (.cons (.call .gA (.cons (.var 0) (.cons (.var 2) (.cons (.int 2) .nil)))) .nil))))) (
  .cons (.ret (.var 1)) (.nil)))
  .nil) (
 .cons (.asg 5 (.bin .add (.int 1) (.call .cG (.cons (.var 0) (.cons (.int 2) .nil))))) (
 .cons (.ite (.cmp .eq (.var 3) (.int 1))
  (.cons (.cI (.var 4) .eZ (.tup (.cons (.str .branch) (.cons (.sub (.var 2) (.call .cG (.cons (.var 0) (.cons (.bi .len (.cons (.var 2) .nil)) .nil)))) (.cons (.int 1) (.cons (.int 2) .nil)))))) (
  .cons (.cz [6] (.range (.int 2)) nG) (
  .cons (.asg 7 (.bi .listOf (.cons (.var 2) .nil))) (
  .cons (.asg 9 (.call .dS (.cons (.var 0) (.cons (.var 1) (.cons (.var 7) (.cons (.comp uV 14 (.range (.var 5)) lq) (.cons (.int 0) .nil))))))) (
  .cons (.cI (.var 9) .eZ (.tup (.cons (.str .call) (.cons (.sub (.var 7) (.int (-1))) (.cons (.sub (.var 7) (.int 0)) (.cons (.call .gA (.cons (.var 0) (.cons (.var 7) (.cons (.int 2) .nil)))) .nil)))))) (
  .cons (.ret (.var 1)) (.nil)))))))
  .nil) (
 .cons (.cI (.var 4) .eZ (.tup (.cons (.str .goto) (.cons (.int 1) (.cons (.call .gA (.cons (.var 0) (.cons (.var 2) (.cons (.var 5) .nil)))) .nil))))) (
 .cons (.asg 10 (.call .dS (.cons (.var 0) (.cons (.var 1) (.cons (.var 2) (.cons (.comp uW 15 (.range (.var 5)) lq) (.cons (.int 0) .nil))))))) (
 .cons (.cI (.var 10) .eZ (.tup (.cons (.str .branch) (.cons (.sub (.var 2) (.call .cG (.cons (.var 0) (.cons (.bi .len (.cons (.var 2) .nil)) .nil)))) (.cons (.int 2) (.cons (.int 3) .nil)))))) (
 .cons (.asg 11 (.bi .listOf (.cons (.var 2) .nil))) (
 .cons (.asg 12 (.call .dS (.cons (.var 0) (.cons (.var 1) (.cons (.var 11) (.cons (.list .nil) (.cons (.int 0) .nil))))))) (
 .cons (.cI (.var 12) .eZ (.tup (.cons (.str .goto) (.cons (.int 1) (.cons (.ite (.cmp .eq (.var 3) (.int 2)) (.bi .tupleOf (.cons (.cut (.attr (.var 10) .params) .rev) .nil)) (.call .gA (.cons (.var 0) (.cons (.var 11) (.cons (.var 5) .nil))))) .nil))))) (iB)))))))))))
noncomputable def nJ:Ss:=
 (.cons (.cI (.var 1) .entry (.comp uU 13 (.range (.bin .add (.int 1) (.call .cG (.cons (.var 0) (.cons (.int 2) .nil))))) lq)) (
 .cons (.cI (.var 1) .cJ (.bin .sub (.bi .len (.cons (.attr (.var 1) .entry) .nil)) (.int 1))) (
 .cons (.sH [2,3] (.tup (.cons (.bi .listOf (.cons (.attr (.var 1) .entry) .nil)) (.cons (.call .cG (.cons (.var 0) (.cons (.int 4) .nil))) .nil)))) (nH))))
noncomputable def Ba:Ss:=
 (.cons (.asg 1 (.new .dy (.cons (.int 0) (.cons (.str .u) (.cons (.bool false) .nil))))) (nJ))
noncomputable def Bb:Ss:=
 (.cons (.ite (.cmp .kA (.var 1) (.var 0))
  (.cons (.fu (.var 0) (.var 1) (.bi .len (.cons (.var 0) .nil))) (.nil))
  .nil) (
 .cons (.ret (.sub (.var 0) (.var 1))) (.nil)))
noncomputable def zz:Ss:=
 (.cons (.fu (.var 1) (.sub (.var 2) (.sub (.var 5) (.int 0))) (.call .gB (.cons (.var 0) (.cons (.tup (.cons (.str .made) (.cons (.bi .len (.cons (.var 4) .nil)) (.cons (.sub (.var 5) (.int 1)) .nil)))) .nil)))) (.nil))
noncomputable def zA:Ex:=
 (.sub (.var 1) (.sub (.var 2) (.var 7)))
noncomputable def zB:Ex:=
 (.comp zA 7 (.of (.sub (.var 6) (.int 2))) lq)
noncomputable def zE:Ex:=
 (.sub (.var 1) (.sub (.var 2) (.var 8)))
noncomputable def G0:Ss:=
 (.cons (.ite (.cmp .eq (.sub (.var 3) (.int 0)) (.str .define))
  (.cons (.ex (.jt .append (.var 4) (.cons (.tup (.cons (.str .define) (.cons (.sub (.var 3) (.int 1)) (.cons (.sub (.var 1) (.sub (.var 2) (.sub (.var 3) (.int 2)))) .nil)))) .nil))) (.nil))
  (.cons (.ite (.or (.cons (.cmp .eq (.sub (.var 3) (.int 0)) (.str .const)) (.cons (.cmp .eq (.sub (.var 3) (.int 0)) (.str .free)) .nil)))
   (.cons (.fu (.var 1) (.sub (.var 2) (.sub (.var 3) (.int 1))) (.call .gB (.cons (.var 0) (.cons (.tup (.cons (.sub (.var 3) (.int 0)) (.cons (.sub (.var 3) (.int 2)) .nil))) .nil)))) (.nil))
   (.cons (.ite (.cmp .eq (.sub (.var 3) (.int 0)) (.str .fix))
    (.cons (.cz [5] (.of (.sub (.var 3) (.int 1))) zz) (
    .cons (.ex (.jt .append (.var 4) (.cons (.tup (.cons (.str .fix) (.cons (.comp zB 6 (.of (.sub (.var 3) (.int 1))) lq) .nil))) .nil))) (.nil)))
    (.cons (.fu (.var 1) (.sub (.var 2) (.sub (.var 3) (.int 1))) (.call .gB (.cons (.var 0) (.cons (.bin .add (.tup (.cons (.sub (.var 3) (.int 0)) (.cons (.sub (.var 3) (.int 2)) .nil))) (.bi .tupleOf (.cons (.comp zE 8 (.of (.sub (.var 3) (.int 3))) lq) .nil))) .nil)))) (.nil))) (.nil))) (.nil))) (.nil))
noncomputable def nK:Ss:=
 (.cons (.fu (.var 4) (.sub (.var 2) (.var 9)) (.call .gB (.cons (.var 0) (.cons (.tup (.cons (.str .l9) (.cons (.var 8) .nil))) .nil)))) (.nil))
noncomputable def gq:Ex:=
 (.bool true)
noncomputable def nL:Ss:=
 (.cons (.ex (.call .wA (.cons (.var 0) (.cons (.var 4) (.cons (.var 2) (.cons (.var 11) (.cons (.var 5) .nil))))))) (.nil))
noncomputable def uX:Ex:=
 (.sub (.var 4) (.sub (.var 2) (.var 16)))
noncomputable def nM:Ss:=
 (.cons (.fu (.var 4) (.sub (.var 2) (.var 14)) (.var 15)) (.nil))
noncomputable def uY:Ex:=
 (.sub (.var 4) (.sub (.var 2) (.var 17)))
noncomputable def uZ:Ex:=
 (.sub (.var 4) (.sub (.var 2) (.var 18)))
noncomputable def nN:Ss:=
 (.cons (.ite (.cmp .eq (.sub (.var 12) (.int 0)) (.str .goto))
  (.cons (.asg 13 (.comp uX 16 (.of (.sub (.var 12) (.int 2))) lq)) (
  .cons (.cz [14,15] (.zip (.attr (.sub (.attr (.var 1) .blocks) (.sub (.var 12) (.int 1))) .params) (.var 13)) nM) (
  .cons (.asg 6 (.sub (.var 12) (.int 1))) (.nil))))
  (.cons (.ite (.cmp .eq (.sub (.var 12) (.int 0)) (.str .branch))
   (.cons (.ex (.jt .append (.var 5) (.cons (.tup (.cons (.str .test) (.cons (.sub (.var 4) (.sub (.var 2) (.sub (.var 12) (.int 1)))) .nil))) .nil))) (
   .cons (.ite (.fG false (.var 7))
    (.cons (.ret (.var 5)) (.nil))
    .nil) (
   .cons (.asg 6 (.ite (.cmp .gt (.jt .iP (.var 7) (.cons (.int 0) .nil)) (.int 0)) (.sub (.var 12) (.int 2)) (.sub (.var 12) (.int 3)))) (.nil))))
   (.cons (.ite (.cmp .eq (.sub (.var 12) (.int 0)) (.str .call))
    (.cons (.ret (.bin .add (.var 5) (.list (.cons (.tup (.cons (.str .call) (.cons (.sub (.var 4) (.sub (.var 2) (.sub (.var 12) (.int 1)))) (.cons (.sub (.var 4) (.sub (.var 2) (.sub (.var 12) (.int 2)))) (.cons (.comp uY 17 (.of (.sub (.var 12) (.int 3))) lq) .nil))))) .nil)))) (.nil))
    (.cons (.ret (.bin .add (.var 5) (.list (.cons (.tup (.cons (.str .give) (.cons (.sub (.var 4) (.sub (.var 2) (.sub (.var 12) (.int 1)))) (.cons (.comp uZ 18 (.of (.sub (.var 12) (.int 2))) lq) .nil)))) .nil)))) (.nil))) (.nil))) (.nil))) (.nil))
noncomputable def gr:Ss:=
 (.cons (.asg 10 (.sub (.attr (.var 1) .blocks) (.var 6))) (
 .cons (.cz [11] (.of (.attr (.var 10) .ops)) nL) (
 .cons (.asg 12 (.attr (.var 10) .eZ)) (nN))))
noncomputable def u2:Ss:=
 (.cons (.wh gq gr) (.nil))
noncomputable def u3:Ss:=
 (.cons (.cz [8,9] (.enum (.attr (.var 1) .entry)) nK) (u2))
noncomputable def Bc:Ss:=
 (.cons (.sH [4,5,6,7] (.tup (.cons (.lB false) (.cons (.list .nil) (.cons (.int 0) (.cons (.bi .listOf (.cons (.var 3) .nil)) .nil)))))) (u3))
noncomputable def pL:Ss:=
 (.cons (.fu (.var 4) (.var 8) (.call .gB (.cons (.var 0) (.cons (.tup (.cons (.str .l9) (.cons (.var 8) .nil))) .nil)))) (.nil))
noncomputable def xq:Ex:=
 (.tup (.cons (.var 12) (.cons (.var 12) .nil)))
noncomputable def xt:Ex:=
 (.sub (.var 4) (.var 13))
noncomputable def xu:Ex:=
 (.sub (.var 4) (.var 14))
noncomputable def pM:Ss:=
 (.cons (.ite (.cmp .eq (.sub (.var 11) (.int 0)) (.str .move))
  (.cons (.fu (.var 4) (.sub (.var 11) (.int 1)) (.jt .get (.var 4) (.cons (.sub (.var 11) (.int 2)) (.cons .none .nil)))) (.nil))
  (.cons (.ite (.cmp .eq (.sub (.var 11) (.int 0)) (.str .d7))
   (.cons (.asg 6 (.sub (.var 11) (.int 1))) (.nil))
   (.cons (.ite (.cmp .eq (.sub (.var 11) (.int 0)) (.str .dJ))
    (.cons (.ex (.jt .append (.var 5) (.cons (.tup (.cons (.str .test) (.cons (.jt .get (.var 4) (.cons (.sub (.var 11) (.int 1)) (.cons .none .nil))) .nil))) .nil))) (
    .cons (.ite (.fG false (.var 7))
     (.cons (.ret (.var 5)) (.nil))
     .nil) (
    .cons (.asg 6 (.ite (.cmp .gt (.jt .iP (.var 7) (.cons (.int 0) .nil)) (.int 0)) (.var 6) (.sub (.var 11) (.int 2)))) (.nil))))
    (.cons (.ite (.cmp .eq (.sub (.var 11) (.int 0)) (.str .call))
     (.cons (.ret (.bin .add (.var 5) (.list (.cons (.tup (.cons (.str .call) (.cons (.sub (.var 4) (.sub (.var 11) (.int 1))) (.cons (.sub (.var 4) (.sub (.var 11) (.int 2))) (.cons (.comp xt 13 (.of (.sub (.var 11) (.int 3))) lq) .nil))))) .nil)))) (.nil))
     (.cons (.ite (.cmp .eq (.sub (.var 11) (.int 0)) (.str .give))
      (.cons (.ret (.bin .add (.var 5) (.list (.cons (.tup (.cons (.str .give) (.cons (.sub (.var 4) (.sub (.var 11) (.int 1))) (.cons (.comp xu 14 (.of (.sub (.var 11) (.int 2))) lq) .nil)))) .nil)))) (.nil))
      (.cons (.ex (.call .wA (.cons (.var 0) (.cons (.var 4) (.cons (.var 9) (.cons (.var 11) (.cons (.var 5) .nil))))))) (.nil))) (.nil))) (.nil))) (.nil))) (.nil))) (.nil))
noncomputable def kr:Ss:=
 (.cons (.ite (.not (.chain (.int 0) (.var 6) (.bi .len (.cons (.attr (.var 1) .bv) .nil))))
  (.cons (.ret .none) (.nil))
  .nil) (
 .cons (.asg 11 (.sub (.attr (.var 1) .bv) (.var 6))) (
 .cons (.asg 6 (.bin .add (.var 6) (.int 1))) (pM))))
noncomputable def xx:Ss:=
 (.cons (.cz [10] (.range (.int 60)) kr) (
 .cons (.ret .none) (.nil)))
noncomputable def xy:Ss:=
 (.cons (.asg 9 (.bi .dictOf (.cons (.comp xq 12 (.range (.attr (.var 1) .cX)) lq) .nil))) (xx))
noncomputable def xz:Ss:=
 (.cons (.cz [8] (.range (.var 2)) pL) (xy))
noncomputable def DY:Ss:=
 (.cons (.sH [4,5,6,7] (.tup (.cons (.lB false) (.cons (.list .nil) (.cons (.int 0) (.cons (.bi .listOf (.cons (.var 3) .nil)) .nil)))))) (xz))
noncomputable def G1:Ex:=
 (.tup (.cons (.var 9) (.cons (.var 9) .nil)))
noncomputable def yH:Ss:=
 (.cons (.asg 7 (.lB true)) (
 .cons (.asg 8 (.call .tu (.cons (.var 7) (.cons (.var 2) (.cons (.var 5) (.cons (.var 6) .nil)))))) (
 .cons (.ite (.nU (.call .wO (.cons (.var 7) (.cons (.var 3) (.cons (.bi .len (.cons (.attr (.var 2) .entry) .nil)) (.cons (.var 6) .nil))))) (.var 8))
  (.cons (.ret (.bool false)) (.nil))
  .nil) (.nil))))
noncomputable def Ca:Ss:=
 (.cons (.asg 2 (.call .tr (.cons (.var 1) .nil))) (
 .cons (.asg 3 (.call .ki (.cons (.var 2) (.cons (.call .qz (.cons (.var 2) .nil)) .nil)))) (
 .cons (.asg 4 (.list (.cons (.attr (.var 3) .number) (.cons (.attr (.var 3) .title) (.cons (.attr (.var 3) .cJ) (.cons (.attr (.var 3) .cF) (.cons (.attr (.var 3) .aT) .nil))))))) (
 .cons (.ite (.or (.cons (.nU (.var 4) (.list (.cons (.int 0) (.cons (.str .u) (.cons (.attr (.var 2) .cJ) (.cons (.bool false) (.cons (.bool false) .nil))))))) (.cons (.cmp .kA (.sub (.sub (.attr (.var 3) .bv) (.int (-1))) (.int 0)) (.tup (.cons (.str .d7) (.cons (.str .call) (.cons (.str .give) .nil))))) .nil)))
  (.cons (.ret (.bool false)) (.nil))
  .nil) (
 .cons (.asg 5 (.bi .dictOf (.cons (.comp G1 9 (.range (.attr (.var 2) .count)) lq) .nil))) (
 .cons (.cz [6] (.of (.tup (.cons (.list (.cons (.int 0) .nil)) (.cons (.list (.cons (.int 1) (.cons (.int 0) .nil))) (.cons (.list (.cons (.int 1) (.cons (.int 1) (.cons (.int 0) .nil)))) .nil))))) yH) (
 .cons (.ret (.bool true)) (.nil))))))))
noncomputable def prog(x:Fn):Def:=CJ ⟨0,0,.nil⟩ [⟨9,9,qN⟩,⟨1,1,rW⟩,⟨1,8,qO⟩,⟨1,5,m7⟩,⟨3,3,rX⟩,⟨4,4,tY⟩,⟨1,1,rY⟩,⟨1,1,zo⟩,⟨1,1,xj⟩,⟨3,5,tZ⟩,⟨2,3,zp⟩,⟨1,2,uJ⟩,⟨2,2,NM⟩,⟨1,1,t7⟩,⟨3,4,qP⟩,⟨3,6,xk⟩,⟨2,3,rZ⟩,⟨2,2,xm⟩,⟨2,3,t8⟩,⟨2,4,zq⟩,⟨3,3,uc⟩,⟨1,1,NN⟩,⟨2,2,NO⟩,⟨3,3,DU⟩,⟨3,6,Jy⟩,⟨3,6,xn⟩,⟨1,4,A6⟩,⟨1,1,zr⟩,⟨2,3,uK⟩,⟨1,7,GX⟩,⟨2,7,ud⟩,⟨1,3,DV⟩,⟨1,3,DW⟩,⟨2,2,Jz⟩,⟨2,2,DX⟩,⟨3,5,uL⟩,⟨2,2,xo⟩,⟨3,6,uM⟩,⟨3,5,r0⟩,⟨1,7,zt⟩,⟨1,5,ue⟩,⟨2,2,xp⟩,⟨3,5,QK⟩,⟨3,6,GY⟩,⟨1,9,A7⟩,⟨1,5,uR⟩,⟨1,6,zv⟩,⟨3,3,uS⟩,⟨3,5,uh⟩,⟨1,2,uT⟩,⟨4,6,ui⟩,⟨1,7,zw⟩,⟨2,2,A8⟩,⟨3,8,GZ⟩,⟨5,7,zy⟩,⟨3,4,A9⟩,⟨1,16,Ba⟩,⟨2,2,Bb⟩,⟨5,9,G0⟩,⟨4,19,Bc⟩,⟨4,15,DY⟩,⟨1,10,.cons .wall .nil⟩] x.val
theorem sm(h:Nat.ble n 1000=true):n<aZ:=cO (eP h) (by decide)
theorem dQ(h:Nat.ble n 99=true):n<100:=Nat.lt_succ_of_le (eP h)
theorem av(h:H):le h h:=λ u0 u0 e=>e
theorem aF(x:le a b)(y:le b c):le a c:=λ u0 u0 e=>y _ _ (x _ _ e)
theorem aa(h:H)(a:Nat)(o:O):aC h a o a=some o:=if_pos rfl
theorem bu(n:b≠a):aC h a o b=h b:=if_neg n
theorem aj{h:H}(x:h a=some o)(y:h b=none):a≠b:=λ e=>by rw[←e,x] at y;exact AB y
theorem ag(x:h b=some o)(n:b≠a):aC h a p b=some o:=(bu n).trans x
theorem ax(x:h b=some o)(n:h a=none):aC h a p b=some o:=ag x (aj x n)
theorem aA(n:h a=none):le h (aC h a o):=λ u0 u0 e=>ax e n
theorem aX(l:le h g)(n:g a=none):le h (aC g a o):=aF l (aA n)
set_option tactic.hygienic true in
theorem aQ (l : le h g) (n : h a = none) : le h (aC g a o) := λ b x e => by
  unfold aC; split
  · rename_i q; rw [q, n] at e; exact dD e
  · exact l _ _ e
theorem bn(l:le h g)(n:g a=none):h a=none:=by
 cases e:h a with
 |none=>rfl
 |some o=>rw[l _ _ e] at n;exact AB n
theorem aD(e:aC h a o b=none):b≠a/\h b=none:=by
 unfold aC at e;split at e
 ·exact AB e
 ·exact⟨by assumption,e⟩
set_option tactic.hygienic true in
theorem eS (l : le h g) : le (aC h a o) (aC g a o) := λ b x e => by
  unfold aC at e ⊢; split
  · rename_i q; rw [if_pos q] at e; exact e
  · rename_i q; rw [if_neg q] at e; exact l _ _ e
set_option tactic.hygienic true in
theorem jb (hx : g a = some o) (l : le h g) : le (aC h a o) g := λ b x e => by
  unfold aC at e; split at e
  · rename_i q; rw [q, hx]; exact e
  · exact l _ _ e
theorem a9(h:H)(a:Nat)(o o':O):aC (aC h a o) a o'=aC h a o':=by funext b;unfold aC;split<;>rfl
theorem c6(n:a≠b):aC (aC h a o) b p=aC (aC h b p) a o:=by
 funext x;unfold aC
 by_cases e:x=a
 ·subst e;rw[if_neg n,if_pos rfl,if_pos rfl]
 ·rw[if_neg e,if_neg e]
section
variable {Q : V -> H -> Prop} {K : H -> Prop} {h h' : H} {a b x : Nat} {i j : Int} {v w : V} {l m : List V} {o : O} {B : Bool -> H -> Prop} {P R : Prop} {es : List (Int × V)} {ek : List (List Ak × V)} {k : List Ak}
  {c : Ab} {fs : List (At × V)} {t : At} {L : List V -> (H -> Prop) -> H -> Prop}
theorem cR(q:∀b,h b=none->Q (.ref b) (aC h b o)):eH o Q h:=by unfold eH;exact q
theorem wj{b:Bool}(e:b=true)(p:P):DL b P R:=by rw[e];exact p
theorem sM{b:Bool}(e:b=false)(p:R):DL b P R:=by rw[e];exact p
theorem oX{b:Bool}(p:b=true->P)(r:b=false->R):DL b P R:=by cases b;exact r rfl;exact p rfl
theorem ay(e:h x=some (.inst c fs))(y:eM fs t=some w)(q:Q w h):yh t (.ref x) Q h:=by unfold yh;exact⟨x,c,fs,w,rfl,e,y,q⟩
theorem az(y:jH l i=some w)(q:Q w h):oD (.tup l) (.int i) Q h:=by unfold oD;exact⟨w,y,q⟩
theorem An(e:v=.tup l)(y:jH l i=some w)(q:Q w h):oD v (.int i) Q h:=by rw[e];exact az y q
theorem cQ(e:h a=some (.list l))(y:jH l i=some w)(q:Q w h):oD (.ref a) (.int i) Q h:=by unfold oD;exact⟨_,w,e,y,q⟩
theorem dj(e:h a=some (.ao es))(y:aE es i=some w)(q:Q w h):oD (.ref a) (.int i) Q h:=by unfold oD;exact⟨_,w,e,y,q⟩
theorem Py(e:h a=some (.b9 ek))(f:ib l=some k)(y:aE ek k=some w)(q:Q w h):oD (.ref a) (.tup l) Q h:=by unfold oD;exact⟨_,w,e,by show(ib l).bind _=_;rw[f];exact y,q⟩
theorem Dx(e:h a=some (.list l))(h0:0<=i)(h1:i<l.length)(q:K (aC h a (.list (l.set i.toNat w)))):nj (.ref a) (.int i) w K h:=by unfold nj;exact⟨a,_,_,rfl,e,if_pos ⟨h0,h1⟩,q⟩
theorem xT(e:h a=some (.ao es))(h1:es.length<aZ)(q:K (aC h a (.ao (dT es i w)))):nj (.ref a) (.int i) w K h:=by unfold nj;exact⟨a,_,_,rfl,e,if_pos h1,q⟩
theorem Us(e:h a=some (.b9 ek))(f:ib l=some k)(h1:ek.length<aZ)(q:K (aC h a (.b9 (dT ek k w)))):nj (.ref a) (.tup l) w K h:=by unfold nj;exact⟨a,_,_,rfl,e,(if_pos h1).trans (by rw[f];rfl),q⟩
theorem cm(e:h x=some (.inst c fs))(m:eW c t=Option.none)(n:fs.length<100)(q:K (aC h x (.inst c (uB t w fs)))):yi (.ref x) t w K h:=by unfold yi;exact⟨x,c,fs,rfl,e,m,n,q⟩
theorem cU{K:Fn->Prop}(e:h x=some (.inst c fs))(n:eM fs t=Option.none)(m:eW c t=some f)(q:K f):B7 (.ref x) t K h:=by unfold B7;exact⟨x,c,fs,f,rfl,e,n,m,q⟩
theorem I9(e:h a=some (.list l))(n:l.length<aZ)(q:∀b,h b=none->Q (.ref b) (aC h b (.list l.reverse))):sJ .rev (.ref a) Q h:=by unfold sJ;exact⟨a,l,rfl,e,n,cR q⟩
theorem Ut(n:(v::l).length<aZ)(q:Q (.tup l) h):sJ .tail (.tup (v::l)) Q h:=by unfold sJ;exact⟨_,rfl,Nat.succ_pos _,n,q⟩
theorem Pz(n:(v::l).length<aZ)(q:Q (.tup (v::l).dropLast) h):sJ .init (.tup (v::l)) Q h:=by unfold sJ;exact⟨_,rfl,Nat.succ_pos _,n,q⟩
theorem bf(n:l.length<aZ)(q:∀b,h b=none->Q (.ref b) (aC h b (.list l))):iL l Q h:=by unfold iL;exact⟨n,cR q⟩
theorem bT(n:l.length<aZ)(q:Q (.tup l) h):Fj l Q h:=by unfold Fj;exact⟨n,q⟩
theorem QL(e:fY s=some l)(q:Q (.tup l) h):B4 (.str s) Q h:=by unfold B4;exact⟨s,l,rfl,e,q⟩
theorem Vw(e:h a=some (.ao es))(q:B (aE es i).isSome h):OP (.int i) (.ref a) B h:=by unfold OP;exact⟨i,es,rfl,e,q⟩
theorem M8(e:h a=some (.ao es))(q:B (!(aE es i).isSome) h):iq (.int i) (.ref a) B h:=by unfold iq;exact .inl ⟨i,es,rfl,e,q⟩
theorem Dy(e:h a=some (.list l))(f:∀v∈l,B2 v)(n:l.length<aZ)(q:V.int i∈l->B false h)(r:V.int i∉l->B true h):iq (.int i) (.ref a) B h:=by unfold iq;exact .inr (.inl ⟨i,l,rfl,e,f,n,q,r⟩)
theorem Uu(e:h a=some (.b9 ek))(f:ib l=some k)(q:B (!(aE ek k).isSome) h):iq (.tup l) (.ref a) B h:=by unfold iq;exact .inr (.inr ⟨l,k,ek,rfl,e,f,q⟩)
theorem nX(e:h a=some (.list l))(q:Q (.bool (Ac ne l.isEmpty)) h):sf (.ref a) ne Q h:=by unfold sf;exact⟨a,l,rfl,e,q⟩
theorem AK(e:h a=some (.ao es))(q:Q (.bool (Ac ne es.isEmpty)) h):sn (.ref a) ne Q h:=by unfold sn;exact⟨a,es,rfl,e,q⟩
theorem Uv(x:i.natAbs<2^62)(y:j.natAbs<2^62)(q:Q (.int (i+j)) h):eG .add (.int i) (.int j) Q h:=by unfold eG;exact⟨⟨x,y⟩,q⟩
theorem M9(x:i.natAbs<2^62)(y:j.natAbs<2^62)(q:Q (.int (i-j)) h):eG .sub (.int i) (.int j) Q h:=by unfold eG;exact⟨⟨x,y⟩,q⟩
theorem oE(x:p+q<2000000)(r:Q (.int (p+q:Nat)) h):eG .add (.int p) (.int q) Q h:=by unfold eG;exact⟨⟨by simp;exact ai [_,_] (Pl X0 (Nm 1)) (Nm 4611686018427387904) 1 (Pl (Pl X0 X1) (Nm 1)) (Nm 2000000) rfl x,by simp;exact ai [_,_] (Pl X0 (Nm 1)) (Nm 4611686018427387904) 1 (Pl (Pl X1 X0) (Nm 1)) (Nm 2000000) rfl x⟩,r⟩
theorem IM(r:Q (.int (io p q)) h):eG .bor (.int p) (.int q) Q h:=by unfold eG;exact⟨⟨g9 _,g9 _⟩,r⟩
theorem Na(r:Q (.int (uC p q)) h):eG .band (.int p) (.int q) Q h:=by unfold eG;exact⟨⟨g9 _,g9 _⟩,r⟩
theorem Uw(r:Q (.int (Du p q)) h):eG .bxor (.int p) (.int q) Q h:=by unfold eG;exact⟨⟨g9 _,g9 _⟩,r⟩
theorem Ja(n:p<100000)(r:Q (.int (rB p)) h):eG .shl (.int 1) (.int p) Q h:=by unfold eG;exact⟨⟨rfl,g9 _,jk n⟩,r⟩
theorem Jb(n:q<100000)(r:Q (.int (wi p q)) h):eG .shr (.int p) (.int q) Q h:=by unfold eG;exact⟨⟨g9 _,g9 _,jk n⟩,r⟩
theorem Nb(n:l.length+m.length<aZ)(q:Q (.tup (l++m)) h):eG .add (.tup l) (.tup m) Q h:=by unfold eG;exact⟨rfl,n,q⟩
theorem Nc(e:h a=some (.list l))(f:h b=some (.list m))(n:l.length+m.length<aZ)(q:∀c,h c=none->Q (.ref c) (aC h c (.list (l++m)))):eG .add (.ref a) (.ref b) Q h:=by unfold eG;exact⟨l,m,e,f,rfl,n,cR q⟩
theorem PA(e:h a=some (.list [v]))(y:n<aZ)(q:∀c,h c=none->Q (.ref c) (aC h c (.list (List.replicate n v)))):eG .mul (.ref a) (.int n) Q h:=by unfold eG;exact⟨v,e,rfl,g9 _,jk y,cR q⟩
theorem qi(e:h a=some (.list l))(n:l.length<aZ)(q:Q (.int l.length) h):xS (.ref a) Q h:=by unfold xS;exact⟨a,_,_,rfl,e,rfl,n,q⟩
theorem Ux(e:h a=some (.b9 ek))(n:ek.length<aZ)(q:Q (.int ek.length) h):xS (.ref a) Q h:=by unfold xS;exact⟨a,_,_,rfl,e,rfl,n,q⟩
theorem sR(e:h a=some (.list l))(n:l.length<aZ)(q:∀b,h b=none->Q (.ref b) (aC h b (.list l))):iR (.ref a) Q h:=by unfold iR;exact⟨_,l,e,rfl,n,cR q⟩
theorem FO(e:h a=some (.ao es))(n:(es.map λ p=>V.int p.1).length<aZ)(q:∀b,h b=none->Q (.ref b) (aC h b (.list (es.map λ p=>V.int p.1)))):iR (.ref a) Q h:=by unfold iR;exact⟨_,_,e,rfl,n,cR q⟩
theorem FP(n:l.length<aZ)(q:∀b,h b=none->Q (.ref b) (aC h b (.list l))):iR (.tup l) Q h:=by unfold iR;exact⟨n,cR q⟩
theorem xU(e:h a=some (.list l))(n:l.length<aZ)(q:Q (.tup l) h):ph (.ref a) Q h:=by unfold ph;exact⟨a,l,rfl,e,n,q⟩
theorem PC(e:h a=some (.list l))(f:∀v∈l,Gp v)(n:l.length<aZ)(q:V.bool true∈l->Q (.bool true) h)(r:V.bool true∉l->Q (.bool false) h):I8 (.ref a) Q h:=by unfold I8;exact⟨a,l,rfl,e,f,n,q,r⟩
theorem LO(e:h a=some (.list l))(n:l.length<aZ)(p:c9 l=some es)(d:(es.map (·.1)).Nodup)(q:∀b,h b=none->Q (.ref b) (aC h b (.ao es))):oY (.ref a) Q h:=by unfold oY;exact⟨a,l,es,rfl,e,n,p,d,cR q⟩
theorem cb(e:h a=some (.list l))(n:l.length<aZ)(q:Q .none (aC h a (.list (l++[w])))):oZ (.ref a) w Q h:=by unfold oZ;exact⟨a,l,rfl,e,n,q⟩
theorem PD(e:h a=some (.list l))(n:l.length+m.length<aZ)(q:Q .none (aC h a (.list (l++m)))):mL (.ref a) (.tup m) Q h:=by unfold mL;exact⟨a,l,rfl,e,n,q⟩
theorem Fl(e:h a=some (.list l))(f:h b=some (.list m))(d:a≠b)(n:l.length+m.length<aZ)(q:Q .none (aC h a (.list (l++m)))):mL (.ref a) (.ref b) Q h:=by unfold mL;exact⟨a,l,rfl,e,d,m,f,n,q⟩
theorem PE(e:h a=some (.list (l++[w])))(n:l.length+1<aZ)(q:Q w (aC h a (.list l))):B5 (.ref a) Q h:=by unfold B5;exact⟨a,l,w,rfl,e,n,q⟩
theorem PG(e:h a=some (.list (w::l)))(n:l.length+1<aZ)(q:Q w (aC h a (.list l))):oM (.ref a) (.int 0) Q h:=by unfold oM;exact .inl ⟨a,w,l,rfl,rfl,e,n,q⟩
theorem Uy(e:h a=some (.ao es))(n:es.length<aZ)(y:aE es i=some w)(q:Q w (aC h a (.ao (xQ es i)))):oM (.ref a) (.int i) Q h:=by unfold oM;exact .inr ⟨a,es,i,w,rfl,rfl,e,n,y,q⟩
theorem bC{P:Prop}{o:O}{b:Bi}(e:h a=some o)(q:P)(n:yk b o=true:=by rfl):qn b (.ref a) P h:=by unfold qn;exact⟨a,o,rfl,e,n,q⟩
theorem Uz(e:h a=some (.ao es))(q:Q ((aE es i).getD .none) h):Fi (.ref a) (.int i) .none Q h:=by unfold Fi;exact⟨a,es,i,rfl,rfl,rfl,e,q⟩
theorem cA(e:h a=some (.list l))(n:l.length<aZ)(q:L l (λ h'=>h' a=some (.list l)) h):sQ (.ref a) L h:=by unfold sQ;exact⟨l,e,n,q⟩
theorem fP(n:l.length<aZ)(q:L l (λ u0=>True) h):sQ (.tup l) L h:=by unfold sQ;exact⟨n,q⟩
theorem FQ(e:h a=some (.ao es))(n:es.length<aZ)(q:L (es.map λ p=> .int p.1) (λ h'=>h' a=some (.ao es)) h):yl (.ref a) L h:=by unfold yl;exact⟨a,es,rfl,e,n,q⟩
theorem fT(y:n<aZ)(q:L (dH 0 n) (λ u0=>True) h):nV (.int n) L h:=by unfold nV;exact⟨n,rfl,y,q⟩
theorem FR(e:h a=some (.list l))(n:l.length<aZ)(q:L (iK 0 l) (λ h'=>h' a=some (.list l)) h):yn (.ref a) L h:=by unfold yn;exact⟨a,l,rfl,e,n,q⟩
theorem LP(n:l.length<aZ)(o:m.length<aZ)(q:L (iQ l m) (λ u0=>True/\True) h):sK (.tup l) (.tup m) L h:=by unfold sK;exact⟨l,_,m,_,.inl ⟨rfl,rfl⟩,.inl ⟨rfl,rfl⟩,n,o,q⟩
theorem QM(f:h b=some (.list m))(n:l.length<aZ)(o:m.length<aZ)(q:L (iQ l m) (λ h'=>True/\h' b=some (.list m)) h):sK (.tup l) (.ref b) L h:=by unfold sK;exact⟨l,_,m,_,.inl ⟨rfl,rfl⟩,.inr ⟨b,rfl,f,rfl⟩,n,o,q⟩
theorem LQ(e:h a=some (.list l))(f:h b=some (.list m))(n:l.length<aZ)(o:m.length<aZ)(q:L (iQ l m) (λ h'=>h' a=some (.list l)/\h' b=some (.list m)) h):sK (.ref a) (.ref b) L h:=by unfold sK;exact⟨l,_,m,_,.inr ⟨a,rfl,e,rfl⟩,.inr ⟨b,rfl,f,rfl⟩,n,o,q⟩
section
variable {is : List Nat} {f : Fr -> (Out -> Fr -> H -> Prop) -> H -> Prop} {vs : List V} {fr : Fr} {G : Out -> Fr -> H -> Prop}
theorem IU{dG:H->Prop}(c:dG h)(q:nW (lO is v fr) (B8 f (Dw (cw is f dG vs) G) h)):cw is f dG (v::vs) fr G h:=by rw[CW] at*;exact⟨c,q⟩
theorem DM{dG:H->Prop}(c:dG h)(q:G .next fr h):cw is f dG [] fr G h:=by rw[CW];exact⟨c,q⟩
theorem f9(c:h a=some (.list l))(q:nW (lO is v fr) (B8 f (Dw (cw is f (λ h'=>h' a=some (.list l)) vs) G) h)):cw is f (λ h'=>h' a=some (.list l)) (v::vs) fr G h:=IU c q
theorem kR(c:h a=some (.list l))(q:G .next fr h):cw is f (λ h'=>h' a=some (.list l)) [] fr G h:=DM c q
theorem wv(q:nW (lO is v fr) (B8 f (Dw (cw is f (λ u0=>True) vs) G) h)):cw is f (λ u0=>True) (v::vs) fr G h:=IU trivial q
theorem Oz(q:G .next fr h):cw is f (λ u0=>True) [] fr G h:=DM trivial q
end
section
variable {bp : Nat} {cond : Fr -> (Bool -> H -> Prop) -> H -> Prop} {gy : Fr -> (V -> H -> Prop) -> H -> Prop} {fr : Fr} {vs acc : List V} {G : List V -> H -> Prop}
theorem R8{dG:H->Prop}(c:dG h)(q:cond (fr.set bp (some v)) (kC gy (dY bp cond gy dG fr vs) (fr.set bp (some v)) acc G) h):dY bp cond gy dG fr (v::vs) acc G h:=by rw[yE] at*;exact⟨c,q⟩
theorem R9{dG:H->Prop}(c:dG h)(q:G acc h):dY bp cond gy dG fr [] acc G h:=by rw[yE];exact⟨c,q⟩
theorem SR(c:h a=some (.list l))(q:cond (fr.set bp (some v)) (kC gy (dY bp cond gy (λ h'=>h' a=some (.list l)) fr vs) (fr.set bp (some v)) acc G) h):dY bp cond gy (λ h'=>h' a=some (.list l)) fr (v::vs) acc G h:=R8 c q
theorem SU(c:h a=some (.list l))(q:G acc h):dY bp cond gy (λ h'=>h' a=some (.list l)) fr [] acc G h:=R9 c q
theorem qe(q:cond (fr.set bp (some v)) (kC gy (dY bp cond gy (λ u0=>True) fr vs) (fr.set bp (some v)) acc G) h):dY bp cond gy (λ u0=>True) fr (v::vs) acc G h:=R8 trivial q
theorem xZ(q:G acc h):dY bp cond gy (λ u0=>True) fr [] acc G h:=R9 trivial q
end
theorem nY{t:Fr->(V->H->Prop)->H->Prop}{f:Fr->(Out->Fr->H->Prop)->H->Prop}{G:Out->Fr->H->Prop}(n:Nat)(q:cj t f n fr G h):ta t f fr G h:=by unfold ta;exact⟨n,q⟩
theorem kB{t:Fr->(V->H->Prop)->H->Prop}{f:Fr->(Out->Fr->H->Prop)->H->Prop}{G:Out->Fr->H->Prop}(q:t fr (LJ f (cj t f n) fr G) h):cj t f (n+1) fr G h:=by rw[DT] at*;exact q
theorem bD(y:le oA h')(q:Q v oA):eO (.ret v) Q h':=by unfold eO;exact⟨oA,y,q⟩
theorem dL(y:le oA h')(q:Q .none oA):eO .next Q h':=by unfold eO;exact⟨oA,y,q⟩
end
noncomputable def aB(L:List Nat):List V:=L.map λ n:Nat=>V.int (n:Int)
theorem bg:aB (A++B)=aB A++aB B:=iD ..
theorem ac:(aB A).length=A.length:=dR ..
theorem lP{a:Nat}:V.int (a:Int)∈aB L↔a∈L:=by
 unfold aB
 rw[List.mem_map]
 constructor
 ·rintro⟨b,hb,e⟩;injection e with e;simp only[←Int.ofNat.inj e];exact hb
 ·intro h;exact⟨a,h,rfl⟩
theorem og:∀v∈aB L,B2 v:=λ v h=>by
 unfold aB at h;refine aG (iE h) λ n u0 ak=>?_;obtain rfl:=ak;trivial
theorem G2{i:Nat}:(aB L)[i]?=L[i]?.map λ n:Nat=>V.int (n:Int):=List.getElem?_map ..
inductive Op where
 |const (t k:Nat)|free (t k:Nat)|prim (t k a b:Nat)|closure (t k a b:Nat)|define (k s:Nat)|fix (a b s t:Nat)
inductive End where
 |goto (b:Nat) (l:List Nat)|branch (c t e:Nat)|call (f k:Nat) (l:List Nat)|give (f:Nat) (l:List Nat)
structure Block where
 params:List Nat
 ops:List Op
 end_:End
noncomputable def Op.v:Op->V
 | .const t k=> .tup [.str .const,.int t,.int k]
 | .free t k=> .tup [.str .free,.int t,.int k]
 | .prim t k a b=> .tup [.str .prim,.int t,.int k,.tup [.int a,.int b]]
 | .closure t k a b=> .tup [.str .closure,.int t,.int k,.tup [.int a,.int b]]
 | .define k s=> .tup [.str .define,.int k,.int s]
 | .fix a b s t=> .tup [.str .fix,.tup [.tup [.int a,.int 0,.tup [.int b,.int s]],.tup [.int b,.int 1,.tup [.int a,.int t]]]]
noncomputable def Op.reads:Op->List Nat
 | .const _ _=>[]| .free _ _=>[]| .prim _ _ a b=>[a,b]| .closure _ _ a b=>[a,b]| .define _ s=>[s]| .fix _ _ s t=>[s,t]
noncomputable def Op.writes:Op->List Nat
 | .const t _=>[t]| .free t _=>[t]| .prim t _ _ _=>[t]| .closure t _ _ _=>[t]| .define _ _=>[]| .fix a b _ _=>[a,b]
noncomputable def Op.ok:Op->Prop
 | .fix a b s t=>a≠b/\s≠a/\s≠b/\t≠a/\t≠b
 |_=>True
noncomputable def Op.yq:Op->Bool
 | .fix .. =>true
 |_=>false
noncomputable def Op.map(f:Nat->Nat):Op->Op
 | .const t k=> .const (f t) k
 | .free t k=> .free (f t) k
 | .prim t k a b=> .prim (f t) k (f a) (f b)
 | .closure t k a b=> .closure (f t) k (f a) (f b)
 | .define k s=> .define k (f s)
 | .fix a b s t=> .fix (f a) (f b) (f s) (f t)
noncomputable def End.v:End->V
 | .goto b l=> .tup [.str .goto,.int b,.tup (aB l)]
 | .branch c t e=> .tup [.str .branch,.int c,.int t,.int e]
 | .call f k l=> .tup [.str .call,.int f,.int k,.tup (aB l)]
 | .give f l=> .tup [.str .give,.int f,.tup (aB l)]
noncomputable def End.reads:End->List Nat
 | .goto _ l=>l| .branch c _ _=>[c]| .call f k l=>f::k::l| .give f l=>f::l
noncomputable def End.blocks:End->List Nat
 | .goto b _=>[b]| .branch _ t e=>[t,e]| .call .. =>[]| .give .. =>[]
noncomputable def Op.pairs:Op->List V
 | .const t k=>[.tup [.str .target,.int t],.tup [.str .constant,.int k]]
 | .free t k=>[.tup [.str .target,.int t],.tup [.str .free,.int k]]
 | .prim t k a b=>[.tup [.str .target,.int t],.tup [.str .qu,.int k],.tup [.str .sources,.tup [.int a,.int b]]]
 | .closure t k a b=>[.tup [.str .target,.int t],.tup [.str .qt,.int k],.tup [.str .sources,.tup [.int a,.int b]]]
 | .define k s=>[.tup [.str .global,.int k],.tup [.str .source,.int s]]
 | .fix a b s t=>[.tup [.str .rows,.tup [.tup [.int a,.int 0,.tup [.int b,.int s]],.tup [.int b,.int 1,.tup [.int a,.int t]]]]]
theorem iH{o:Op}{Q:V->H->Prop}(q:∀a,h a=none->Q (.ref a) (aC h a (.list o.pairs))):
  ah prog (n+1) .gp [o.v] Q h:=by
 refine bJ rfl ?_
 cases o<;>(refine az rfl ?_;refine QL rfl ?_;refine Ut (sm rfl) ?_;refine LP (sm rfl) (sm rfl) ?_;refine bf (sm rfl) λ a ha=>?_;exact bD (av _) (q a ha))
theorem gU{o:Op}{Q:V->H->Prop}(ho:o.ok)(q:∀a,h a=none->Q (.ref a) (aC h a (.list (aB o.reads)))):
  ah prog (n+2) .fJ [o.v] Q h:=by
 refine bJ rfl ?_;refine bf (sm rfl) λ f hf=>?_;refine iH λ p hp=>?_
 have np:=(aD hp).1
 have c:∀{x:O},aC (aC (aC h f (.list [])) p (.list o.pairs)) f x p=some (.list o.pairs):=ag (aa ..) np
 have e:=ax (p:=.list o.pairs) (aa h f (.list [])) hp
 refine cA (aa ..) (by cases o<;>exact sm rfl) ?_
 have skip:o.reads=[]->eO (.ret (.ref f)) Q (aC (aC h f (.list [])) p (.list o.pairs)):=λ z=>bD (aA hp) (by have:=q f hf;rwa [z] at this)
 have ends:∀{g l},l=aB o.reads->le h g->eO (.ret (.ref f)) Q (aC g f (.list l)):=λ z y=>bD (jb (by rw[z];exact aa ..) (aQ y hf)) (q f hf)
 cases o with
 |const t k=>refine f9 (aa ..) ?_;refine f9 (aa ..) ?_;refine kR (aa ..) ?_;exact skip rfl
 |free t k=>refine f9 (aa ..) ?_;refine f9 (aa ..) ?_;refine kR (aa ..) ?_;exact skip rfl
 |prim t k a b=>refine f9 (aa ..) ?_;refine f9 (aa ..) ?_;refine f9 (aa ..) ?_;refine bC e ?_;refine PD e (sm rfl) ?_;refine kR c ?_;exact ends rfl (aX (aA hf) hp)
 |closure t k a b=>refine f9 (aa ..) ?_;refine f9 (aa ..) ?_;refine f9 (aa ..) ?_;refine bC e ?_;refine PD e (sm rfl) ?_;refine kR c ?_;exact ends rfl (aX (aA hf) hp)
 |define k s=>refine f9 (aa ..) ?_;refine f9 (aa ..) ?_;refine bC e ?_;refine cb e (sm rfl) ?_;refine kR c ?_;exact ends rfl (aX (aA hf) hp)
 |fix a b s t=>
  refine RW ho λ h1 h2 h3 h4 h5=>?_
  have own:∀v∈[V.int a,V.int b],B2 v:=og (L:=[a,b])
  have nm:∀{x:Nat},x≠a->x≠b->V.int (x:Int)∉[V.int a,V.int b]:=λ y z m=>by
   rcases ci ((lP (L:=[a,b])).mp m) with e|e
   ·exact y e
   ·exact z (cP e)
  refine f9 (aa ..) ?_;refine fP (sm rfl) ?_;refine qe ?_;refine az rfl ?_;refine qe ?_;refine az rfl ?_;refine xZ ?_;refine bf (sm rfl) λ w hw=>?_
  have ew:=ax (p:=.list [V.int a,V.int b]) e hw
  refine fP (sm rfl) ?_;refine wv ?_;refine bC ew ?_;refine az rfl ?_;refine fP (sm rfl) ?_;refine qe ?_;refine Dy (aa ..) own (sm rfl) (λ u0=>?_) (λ m=>absurd (.tail _ (.head _)) m);refine qe ?_;refine Dy (aa ..) own (sm rfl) (λ m=>absurd m (nm h2 h3)) (λ u0=>?_);refine xZ ?_;refine bf (sm rfl) λ x hx=>?_
  refine Fl (ax ew hx) (aa ..) (aj ew hx) (sm rfl) ?_;refine wv ?_;refine bC (aa ..) ?_;refine az rfl ?_;refine fP (sm rfl) ?_;refine qe ?_
  have ow:=ag (p:=.list [V.int s]) (ax (p:=.list [V.int s]) (aa _ w (.list [V.int a,V.int b])) hx) (aj e hw).symm
  refine Dy ow own (sm rfl) (λ u0=>?_) (λ m=>absurd (.head _) m);refine qe ?_;refine Dy ow own (sm rfl) (λ m=>absurd m (nm h4 h5)) (λ u0=>?_);refine xZ ?_;refine bf (sm rfl) λ y hy=>?_
  refine Fl (ax (aa ..) hy) (aa ..) (aj (aa ..) hy) (sm rfl) ?_;refine Oz ?_
  refine kR (ag (ax (ag (ax (ax (aa ..) hw) hx) np) hy) np) ?_
  exact ends rfl (aX (aQ (aX (aX (aX (aA hf) hp) hw) hx) hf) hy)
theorem dN{o:Op}{Q:V->H->Prop}(q:∀a,h a=none->Q (.ref a) (aC h a (.list (aB o.writes)))):
  ah prog (n+2) .dg [o.v] Q h:=by
 refine bJ rfl ?_;refine bf (sm rfl) λ f hf=>?_;refine iH λ p hp=>?_
 have np:=(aD hp).1
 have c:∀{x:O},aC (aC (aC h f (.list [])) p (.list o.pairs)) f x p=some (.list o.pairs):=ag (aa ..) np
 have e:=ax (p:=.list o.pairs) (aa h f (.list [])) hp
 refine cA (aa ..) (by cases o<;>exact sm rfl) ?_
 have ends:∀{g l},l=aB o.writes->le h g->eO (.ret (.ref f)) Q (aC g f (.list l)):=λ z y=>bD (jb (by rw[z];exact aa ..) (aQ y hf)) (q f hf)
 cases o with
 |const t k=>refine f9 (aa ..) ?_;refine bC e ?_;refine cb e (sm rfl) ?_;refine f9 c ?_;refine kR c ?_;exact ends rfl (aX (aA hf) hp)
 |free t k=>refine f9 (aa ..) ?_;refine bC e ?_;refine cb e (sm rfl) ?_;refine f9 c ?_;refine kR c ?_;exact ends rfl (aX (aA hf) hp)
 |prim t k a b=>refine f9 (aa ..) ?_;refine bC e ?_;refine cb e (sm rfl) ?_;refine f9 c ?_;refine f9 c ?_;refine kR c ?_;exact ends rfl (aX (aA hf) hp)
 |closure t k a b=>refine f9 (aa ..) ?_;refine bC e ?_;refine cb e (sm rfl) ?_;refine f9 c ?_;refine f9 c ?_;refine kR c ?_;exact ends rfl (aX (aA hf) hp)
 |define k s=>refine f9 (aa ..) ?_;refine f9 (aa ..) ?_;refine kR (aa ..) ?_;exact bD (aA hp) (q f hf)
 |fix a b s t=>
  refine f9 (aa ..) ?_;refine bC e ?_;refine fP (sm rfl) ?_;refine qe ?_;refine az rfl ?_;refine qe ?_;refine az rfl ?_;refine xZ ?_;refine bf (sm rfl) λ w hw=>?_
  refine Fl (ax e hw) (aa ..) (aj e hw) (sm rfl) ?_;refine kR (ag (ax (aa ..) hw) np) ?_;exact ends rfl (aX (aX (aA hf) hp) hw)
theorem uj{e:End}{Q:V->H->Prop}(hl:e.reads.length<1000)(q:∀a,h a=none->Q (.ref a) (aC h a (.list (aB e.reads)))):
  ah prog (n+1) .qv [e.v] Q h:=by
 refine bJ rfl ?_
 have AC:∀{l m:List V} {x y z:Nat} (hx:h x=none) (hy:aC h x (.list l) y=none) (hz:aC (aC h x (.list l)) y (.list m) z=none),l++m=aB e.reads->eO (.ret (.ref z)) Q (aC (aC (aC h x (.list l)) y (.list m)) z (.list (l++m))):=λ hx hy hz w=>
  bD (jb (by rw[w];exact aa ..) (aX (aX (aA hx) hy) hz)) (q _ (aD (aD hz).2).2)
 cases e with
 |goto b l=>refine az rfl ?_;refine az rfl ?_;refine az rfl ?_;refine az rfl ?_;refine FP (Nat.lt_trans (by rw[ac];exact hl) (by decide)) λ x hx=>?_;exact bD (av _) (q x hx)
 |branch c t f=>refine az rfl ?_;refine az rfl ?_;refine az rfl ?_;refine az rfl ?_;refine bf (sm rfl) λ x hx=>?_;exact bD (av _) (q x hx)
 |call f k l=>
  have hl:l.length+1+1<1000:=hl
  have Ae:(aB l).length<998:=by rw[ac];exact ai [_] (Pl X0 (Nm 1)) (Nm 998) 1 (Pl (Pl (Pl X0 (Nm 1)) (Nm 1)) (Nm 1)) (Nm 1000) rfl hl
  refine az rfl ?_;refine az rfl ?_;refine az rfl ?_;refine bf (sm rfl) λ x hx=>?_;refine az rfl ?_;refine FP (Nat.lt_trans Ae (by decide)) λ y hy=>?_
  refine Nc (ax (aa ..) hy) (aa ..) (show 2+_<_ by unfold aZ;exact ai [_] (Pl (Pl (Nm 2) X0) (Nm 1)) (Nm 1000000) 1 (Pl X0 (Nm 1)) (Nm 998) rfl Ae) λ z hz=>?_;exact AC hx hy hz rfl
 |give f l=>
  have hl:l.length+1<1000:=hl
  have Ae:(aB l).length<999:=by rw[ac];exact ai [_] (Pl X0 (Nm 1)) (Nm 999) 1 (Pl (Pl X0 (Nm 1)) (Nm 1)) (Nm 1000) rfl hl
  refine az rfl ?_;refine az rfl ?_;refine az rfl ?_;refine bf (sm rfl) λ x hx=>?_;refine az rfl ?_;refine FP (Nat.lt_trans Ae (by decide)) λ y hy=>?_
  refine Nc (ax (aa ..) hy) (aa ..) (show 1+_<_ by unfold aZ;exact ai [_] (Pl (Pl (Nm 1) X0) (Nm 1)) (Nm 1000000) 1 (Pl X0 (Nm 1)) (Nm 999) rfl Ae) λ z hz=>?_;exact AC hx hy hz rfl
theorem gR{e:End}{Q:V->H->Prop}(q:∀a,h a=none->Q (.ref a) (aC h a (.list (aB e.blocks)))):
  ah prog (n+1) .iv [e.v] Q h:=by
 refine bJ rfl ?_
 cases e with
 |goto b l=>refine az rfl ?_;refine az rfl ?_;refine bf (sm rfl) λ x hx=>?_;exact bD (av _) (q x hx)
 |branch c t f=>refine az rfl ?_;refine az rfl ?_;refine az rfl ?_;refine az rfl ?_;refine bf (sm rfl) λ x hx=>?_;exact bD (av _) (q x hx)
 |call f k l=>refine az rfl ?_;refine az rfl ?_;refine bf (sm rfl) λ x hx=>?_;exact bD (av _) (q x hx)
 |give f l=>refine az rfl ?_;refine az rfl ?_;refine bf (sm rfl) λ x hx=>?_;exact bD (av _) (q x hx)
noncomputable def b8(L:List Nat):Nat:=L.foldl (λ m r=>io m (rB r)) 0
noncomputable def rT(a b:Nat):Nat:=uC a (Du a b)
noncomputable def dZ(m:Nat):Nat:=if m=0 then 0 else m.log2+1
noncomputable def jc(m:Nat):List Nat:=(List.range (dZ m)).filter λ i=>m.testBit i
theorem bh:(io a b).testBit i=(a.testBit i||b.testBit i):=Nat.testBit_or ..
theorem xA:(uC a b).testBit i=(a.testBit i&&b.testBit i):=Nat.testBit_and ..
theorem ft:(rT a b).testBit i=(a.testBit i&&!b.testBit i):=by
 dsimp only[rT,Du];simp only[xA,Nat.testBit_xor];cases a.testBit i<;>cases b.testBit i<;>rfl
theorem gF:(rB a).testBit i=decide (a=i):=by
 unfold rB;simp only[Nat.one_shiftLeft,Nat.testBit_two_pow]
theorem aJ:(b8 L).testBit i=decide (i∈L):=by
 have rU:∀(L:List Nat) (m:Nat),(L.foldl (λ m r=>io m (rB r)) m).testBit i=(m.testBit i||decide (i∈L)):=by
  intro L
  induction L with
  |nil=>intro m;simp
  |cons a L ih=>
   intro m
   simp only[List.foldl_cons,ih,bh,gF]
   by_cases e:i=a
   ·subst e;simp
   ·have e':a≠i:=λ q=>e q.symm
    simp[e,e']
 unfold b8;rw[rU];simp
theorem G3:uC (wi m r) 1=1↔m.testBit r=true:=by
 dsimp only[uC,wi,Nat.testBit]
 rw[Nat.and_comm]
 have:1&&&m>>>r=(m>>>r)%2:=Nat.one_and_eq_mod_two ..
 rw[this]
 have:=Nat.mod_two_eq_zero_or_one (m>>>r)
 rcases this with e|e<;>simp[e]
set_option tactic.hygienic true in
theorem yI : 0 < wi m i ↔ i < dZ m := by
  unfold wi dZ
  rw [Nat.shiftRight_eq_div_pow]
  split
  · rename_i e; subst e; simp
  · rename_i e
    rw [Nat.lt_succ_iff, Nat.le_log2 e]
    exact ⟨λ h => (Nat.div_pos_iff.mp h).2, λ h => Nat.div_pos h (Nat.two_pow_pos i)⟩
set_option tactic.hygienic true in
theorem lQ (h : m < 2 ^ k) : dZ m <= k := by
  unfold dZ; split
  · exact aL [_] (Nm 0) X0 rfl
  · rename_i e; exact Nat.succ_le_of_lt ((Nat.log2_lt e).mpr h)
theorem yJ(h:m.testBit i=true):i<dZ m:=by
 have h1:=Nat.ge_two_pow_of_testBit h
 have h0:m≠0:=by rintro rfl;simp at h
 unfold dZ
 rw[if_neg h0,Nat.lt_succ_iff,Nat.le_log2 h0];exact h1
theorem iw:i∈jc m↔m.testBit i=true:=by
 unfold jc;rw[List.mem_filter,List.mem_range]
 exact⟨λ h=>h.2,λ h=>⟨yJ h,h⟩⟩
theorem nO:(jc m).length<=dZ m:=by
 unfold jc;exact cV (List.length_filter_le ..) (by simp)
theorem DZ{K:Out->Fr->H->Prop}(c:h a=some (.list l)):∀(E:List Nat) (m:Nat) (z:Option V),(∀r∈E,r<100000)->
  (∀z,K .next [some (.ref a),some (.int (E.foldl (λ m r=>io m (rB r)) m:Nat)),z] h)->
  cw [2] (wB C pI) (λ h'=>h' a=some (.list l)) (aB E) [some (.ref a),some (.int m),z] K h:=by
 intro xR
 induction xR with
 |nil=>
  intro m z _ q
  exact kR c (q z)
 |cons r E aU=>
  intro m z b q
  refine f9 c ?_;refine Ja (b r (.head _)) ?_;refine IM ?_;exact aU _ _ (λ r m=>b r (.tail _ m)) q
theorem dc{Q:V->H->Prop}(ha:h a=some (.list (aB L)))(hl:L.length<1000000)(hb:∀r∈L,r<100000)
  (q:Q (.int (b8 L)) h):ah prog (n+1) .gg [.ref a] Q h:=by
 refine bJ rfl ?_;refine cA ha (by rw[ac];exact hl) ?_;exact DZ ha L 0 none hb λ z=>bD (av _) q
theorem tv:decide (((uC (wi m r) 1:Nat):Int)=1)=m.testBit r:=by
 rw[Bool.eq_iff_iff,decide_eq_true_eq,←G3];exact Int.ofNat_inj (n:=1)
theorem tK{n m r:Nat}{Q:V->H->Prop}(hr:r<100000)(q:Q (.bool (m.testBit r)) h):ah prog (n+1) .B1 [.int m,.int r] Q h:=by
 refine bJ rfl ?_;refine Jb hr ?_;refine Na (q:=1) ?_;exact bD (av _) (by rw[←tv] at q;exact q)
theorem kt{Q:V->H->Prop}(q:Q (.int (rT a b)) h):ah prog (n+1) .without [.int a,.int b] Q h:=by
 refine bJ rfl ?_;refine Uw ?_;refine Na ?_;exact bD (av _) q
theorem D0{K:Out->Fr->H->Prop}(hw:dZ m<=1000)(q:K .next [some (.int m),some (.ref f),some (.int (dZ m:Nat))] (aC h f (.list (aB (jc m))))):∀(k i:Nat),k+i=dZ m->
  cj (wE C pJ) (wB C pK) (k+1) [some (.int m),some (.ref f),some (.int i)] K (aC h f (.list (aB ((List.range i).filter λ i=>m.testBit i)))):=by
 intro xR
 induction xR with
 |zero=>
  intro i e
  have e:i=dZ m:=by exact dP (ai [_,_] X0 X1 1 (Pl (Nm 0) X0) X1 rfl (bw e)) (ai [_,_] X0 X1 1 X0 (Pl (Nm 0) X1) rfl (bw e.symm))
  subst e
  refine kB ?_;refine Jb (by exact ai [_] (Pl X0 (Nm 1)) (Nm 100000) 1 X0 (Nm 1000) rfl hw) ?_;refine sM (eY λ x=>Nat.lt_irrefl _ (yI.mp (Int.ofNat_lt.mp x))) ?_;exact q
 |succ k aU=>
  intro i e
  have hn:((List.range i).filter λ i=>m.testBit i).length<=i:=cV (List.length_filter_le ..) (by rw[List.length_range];exact aL [_] X0 X0 rfl)
  have es:(List.range (i+1)).filter (λ i=>m.testBit i)=(List.range i).filter (λ i=>m.testBit i)++bif m.testBit i then[i] else[]:=by simp only[List.range_succ,List.filter_append,List.filter_cons];cases m.testBit i<;>rfl
  refine kB ?_;refine Jb (by exact aS [_,_,_] (Pl X0 (Nm 1)) (Nm 100000) 1 X1 (Nm 1000) 1 (Pl (Pl X2 (Nm 1)) X0) X1 rfl hw (bw e)) ?_;refine wj (dE (jk (yI.mpr (by exact ai [_,_,_] (Pl X0 (Nm 1)) X1 1 (Pl (Pl X2 (Nm 1)) X0) X1 rfl (bw e):i<dZ m)))) ?_;refine Jb (by exact aS [_,_,_] (Pl X0 (Nm 1)) (Nm 100000) 1 X1 (Nm 1000) 1 (Pl (Pl X2 (Nm 1)) X0) X1 rfl hw (bw e)) ?_;refine Na (q:=1) ?_
  have ih:=aU (i+1) (by exact dP (ai [_,_,_] (Pl X0 (Pl X1 (Nm 1))) X2 1 (Pl (Pl X0 (Nm 1)) X1) X2 rfl (bw e)) (ai [_,_,_] X0 (Pl X1 (Pl X2 (Nm 1))) 1 X0 (Pl (Pl X1 (Nm 1)) X2) rfl (bw e.symm)))
  rw[es] at ih
  refine oX (λ b=>?_) (λ b=>?_)
  ·have b:m.testBit i=true:=(tv (m:=m) (r:=i)).symm.trans b
   rw[b,cond_true,bg,←a9 h f (.list (aB ((List.range i).filter λ i=>m.testBit i)))] at ih
   refine bC (aa ..) ?_;refine cb (aa ..) (by rw[ac];unfold aZ;exact fH [_,_,_,_] (Pl X0 (Nm 1)) (Nm 1000000) 1 X1 (Nm 1000) 1 (Pl (Pl X2 (Nm 1)) X3) X1 1 X0 X3 rfl hw (bw e) hn) ?_;refine oE (q:=1) (by exact aS [_,_,_] (Pl (Pl X0 (Nm 1)) (Nm 1)) (Nm 2000000) 1 X1 (Nm 1000) 1 (Pl (Pl X2 (Nm 1)) X0) X1 rfl hw (bw e)) ?_;exact ih
  ·have b:m.testBit i=false:=(tv (m:=m) (r:=i)).symm.trans b
   rw[b,cond_false,eE] at ih
   refine oE (q:=1) (by exact aS [_,_,_] (Pl (Pl X0 (Nm 1)) (Nm 1)) (Nm 2000000) 1 X1 (Nm 1000) 1 (Pl (Pl X2 (Nm 1)) X0) X1 rfl hw (bw e)) ?_;exact ih
theorem pN{Q:V->H->Prop}(hm:dZ m<=1000)(q:∀a,h a=none->Q (.ref a) (aC h a (.list (aB (jc m))))):ah prog (n+1) .sa [.int m] Q h:=by
 refine bJ rfl ?_;refine bf (sm rfl) λ f hf=>?_;refine nY (dZ m+1) ?_;exact D0 hm (bD (av _) (q f hf)) (dZ m) 0 rfl
theorem vA{K:Out->Fr->H->Prop}(hw:dZ m<=1000)(q:∀i:Nat,i<=dZ m->m.testBit i=false->K .next [some (.int m),some (.int (i:Nat))] h):∀(k i:Nat),k+i=dZ m->
  cj (wE (ah prog (n+1)) jD) (wB (ah prog (n+1)) jE) (k+1) [some (.int m),some (.int i)] K h
 |k,i,e=>by
  refine kB ?_;refine tK (by exact aS [_,_,_] (Pl X0 (Nm 1)) (Nm 100000) 1 X1 (Nm 1000) 1 (Pl X2 X0) X1 rfl hw (bw e)) ?_;refine oX (λ b=>?_) (λ b=>q i (by exact ai [_,_,_] X0 X1 1 (Pl X2 X0) X1 rfl (bw e)) b)
  have:=yJ b
  cases k with
  |zero=>exact(Nat.not_succ_le_zero 0 (aS [_,_] (Nm 1) (Nm 0) 1 (Pl X1 (Nm 1)) X0 1 X0 (Pl (Nm 0) X1) rfl this (bw e.symm))).elim
  |succ k=>refine oE (q:=1) (by exact aS [_,_,_] (Pl (Pl X0 (Nm 1)) (Nm 1)) (Nm 2000000) 1 X1 (Nm 1000) 1 (Pl (Pl X2 (Nm 1)) X0) X1 rfl hw (bw e)) ?_;exact vA hw q k (i+1) (by exact dP (ai [_,_,_] (Pl X0 (Pl X1 (Nm 1))) X2 1 (Pl (Pl X0 (Nm 1)) X1) X2 rfl (bw e)) (ai [_,_,_] X0 (Pl X1 (Pl X2 (Nm 1))) 1 X0 (Pl (Pl X1 (Nm 1)) X2) rfl (bw e.symm)))
theorem qT{Q:V->H->Prop}(hm:dZ m<=1000)(q:∀i:Nat,i<=dZ m->m.testBit i=false->Q (.int i) h):ah prog (n+2) .l5 [.int m] Q h:=by
 refine bJ rfl ?_;refine nY (dZ m+1) ?_;exact vA hm (λ i a b=>bD (av _) (q i a b)) (dZ m) 0 rfl
structure Un where
 entry:List Nat
 cJ:Int
 count:Nat
 blocks:List Block
structure BA where
 b:Nat
 p:Nat
 o:Nat
structure UA where
 u:Nat
 e:Nat
 bs:Nat
 bl:List BA
structure nk (h:H) (i:Nat) (x:BA) (B:Block):Prop where
 b:h x.b=some (.inst .ct [(.number,.int i),(.params,.ref x.p),(.ops,.ref x.o),(.eZ,B.end_.v)])
 p:h x.p=some (.list (aB B.params))
 o:h x.o=some (.list (B.ops.map Op.v))
structure bF (h:H) (x:UA) (U:Un):Prop where
 u:h x.u=some (.inst .dy [(.number,.int 0),(.title,.str .u),(.aT,.bool false),(.entry,.ref x.e),(.cJ,.int U.cJ),(.cF,.bool false),(.free,.int 0),(.count,.int U.count),(.blocks,.ref x.bs)])
 e:h x.e=some (.list (aB U.entry))
 bs:h x.bs=some (.list (x.bl.map λ y=> .ref y.b))
 len:x.bl.length=U.blocks.length
 gY:∀(i:Nat) (y:BA) (B:Block),x.bl[i]?=some y->U.blocks[i]?=some B->nk h i y B
theorem nk.le{h h':H}{i:Nat}{x:BA}{B:Block}(k:le h h')(a:nk h i x B):nk h' i x B:=⟨k _ _ a.b,k _ _ a.p,k _ _ a.o⟩
theorem bF.le{h h':H}{x:UA}{U:Un}(k:le h h')(a:bF h x U):bF h' x U:=⟨k _ _ a.u,k _ _ a.e,k _ _ a.bs,a.len,λ i y B p q=>(a.gY i y B p q).le k⟩
theorem bF.at_(a:bF h x U)(hj:j<U.blocks.length):∃y b,x.bl[j]?=some y/\U.blocks[j]?=some b/\nk h j y b:=
 have h1:=kH (show j<x.bl.length by simp only[a.len];exact hj)
 have h2:=kH hj
 ⟨_,_,h1,h2,a.gY j _ _ h1 h2⟩
theorem xM{α:Type}{f:α->V}{l:List α}{i:Nat}{y:α}(e:l[i]?=some y):jH (l.map f) (i:Int)=some (f y):=
 (if_pos (g9 i)).trans ((List.getElem?_map ..).trans (by simp only[show((i:Int)).toNat=i from rfl,e];rfl))
theorem MK{i:Nat}(h:i<B.length):jH (aB B) (i:Int)=some (.int ((B[i]?).getD 0:Nat)):=by
 have e:=kH h
 rw[e];exact xM e
noncomputable def Op.e9(o:Op):List Nat:=o.reads++o.writes
structure QN (n cnt:Nat) (B:Block):Prop where
 params:∀r∈B.params,r<cnt
 Fm:B.params.length<=10
 oF:B.ops.length<=10
 ops:∀o∈B.ops,o.ok/\∀r∈o.e9,r<cnt
 ends:∀r∈B.end_.reads,r<cnt
 kZ:B.end_.reads.length<=10
 to:∀j∈B.end_.blocks,j<n
structure Sane (U:Un):Prop where
 cnt:U.count<=900
 len:U.blocks.length<=10
 kZ:U.entry.length<=10
 entry:∀r∈U.entry,r<U.count
 gY:∀(i:Nat) (B:Block),U.blocks[i]?=some B->QN U.blocks.length U.count B
noncomputable def Un.par(U:Un)(j:Nat):List Nat:=(U.blocks[j]?.map (·.params)).getD []
theorem Un.qo{U:Un}(e:U.blocks[j]?=some b):U.par j=b.params:=by unfold Un.par;rw[e];rfl
noncomputable def bP(o:Op)(iM:Nat):Nat:=io (rT iM (b8 o.writes)) (b8 o.reads)
noncomputable def cK:List Op->Nat->Nat
 |[],e=>e
 |o::os,e=>bP o (cK os e)
noncomputable def jO:List Op->Nat->List Nat
 |[],_=>[]
 |_::os,e=>cK os e::jO os e
noncomputable def b7(U:Un)(B:List Nat)(e:End):Nat:=e.blocks.foldl (λ m j=>io m (rT ((B[j]?).getD 0) (b8 (U.par j)))) (b8 e.reads)
noncomputable def cp(U:Un)(B:List Nat)(b:Block):Nat:=cK b.ops (b7 U B b.end_)
theorem bZ:m<2^k↔∀i,m.testBit i=true->i<k:=by
 constructor
 ·intro h i hi
  have:=kI (cO (Nat.ge_two_pow_of_testBit hi) h) (bE _)
  exact(Nat.pow_lt_pow_iff_right (by exact aL [] (Pl (Nm 1) (Nm 1)) (Nm 2) rfl:1<2)).mp this
 ·intro h
  refine Nat.lt_pow_two_of_testBit m λ i hi=>?_
  cases e:m.testBit i with
  |false=>rfl
  |true=>exact absurd hi (Nat.not_le_of_lt (h i e))
theorem hH(h:∀r∈L,r<k):b8 L<2^k:=bZ.mpr λ i hi=>by
 rw[aJ] at hi;exact h i (gS hi)
theorem lG(x:a<2^k)(y:b<2^k):io a b<2^k:=bZ.mpr λ i hi=>by
 rw[bh,Bool.or_eq_true] at hi;exact hi.elim (bZ.mp x i) (bZ.mp y i)
theorem tb(x:a<2^k):rT a b<2^k:=bZ.mpr λ i hi=>by
 rw[ft,Bool.and_eq_true] at hi;exact bZ.mp x i hi.1
theorem xB(x:a<2^k)(y:∀r∈o.e9,r<k):bP o a<2^k:=
 lG (tb x) (hH λ r hr=>y r (kU _ hr))
theorem tL:∀{os:List Op} {e:Nat},e<2^k->(∀o∈os,∀r∈o.e9,r<k)->cK os e<2^k:=by
 intro xR
 induction xR with
 |nil=>
  intro _ x _
  exact x
 |cons o os aU=>
  intro e x y
  exact xB (aU x λ p hp=>y p (List.mem_cons_of_mem _ hp)) (y o List.mem_cons_self)
theorem tM(hr:∀r∈e.reads,r<k)(hB:∀m∈B,m<2^k):b7 U B e<2^k:=by
 unfold b7
 have:∀(l:List Nat) (m:Nat),m<2^k->l.foldl (λ m j=>io m (rT ((B[j]?).getD 0) (b8 (U.par j)))) m<2^k:=by
  intro l
  induction l with
  |nil=>intro m x;exact x
  |cons j l ih=>
   intro m x
   refine ih _ (lG x (tb ?_))
   cases e:B[j]? with
   |none=>exact Nat.two_pow_pos k
   |some b=>exact hB b (mB e)
 exact this _ _ (hH hr)
theorem yK(S:Sane U)(hB:∀m∈B,m<2^U.count){i:Nat}(hb:U.blocks[i]?=some b):cp U B b<2^U.count:=
 tL (tM (S.gY i b hb).ends hB) λ o ho=>((S.gY i b hb).ops o ho).2
theorem D1{K:Out->Fr->H->Prop}(S:Sane U)(hu:bF h x U)(hg:h g=some (.list (aB B)))(hB:B.length=U.blocks.length)(hc:h c=some (.list l)):
  ∀(E:List Nat) (m:Nat) (z:Option V),(∀j∈E,j<U.blocks.length)->
  (∀z,K .next [some (.ref x.u),some (.ref yb),some (.ref g),some (.int (E.foldl (λ m j=>io m (rT ((B[j]?).getD 0) (b8 (U.par j)))) m:Nat)),z] h)->
  cw [4] (wB (ah prog (n+1)) jA) (λ h'=>h' c=some (.list l)) (aB E) [some (.ref x.u),some (.ref yb),some (.ref g),some (.int m),z] K h:=by
 intro xR
 induction xR with
 |nil=>
  intro m z _ q
  exact kR hc (q z)
 |cons j E aU=>
  intro m z b q
  have hj:=b j (.head _)
  refine nQ (hu.at_ hj) λ yj bj e1 e2 Kj=>?_
  have s:=S.gY j bj e2
  have hn:=S.cnt
  refine f9 hc ?_;refine cQ hg (MK (by simp only[hB];exact hj)) ?_;refine ay hu.u rfl ?_;refine cQ hu.bs (xM e1) ?_;refine ay Kj.b rfl ?_
  refine dc Kj.p (cO s.Fm (by decide)) (λ r hr=>by have:=s.params r hr;exact aS [_,_] (Pl X0 (Nm 1)) (Nm 100000) 1 X1 (Nm 900) 1 (Pl X0 (Nm 1)) X1 rfl hn this) ?_;refine kt ?_;refine IM ?_
  simp only[←Un.qo e2]
  exact aU _ _ (λ j m=>b j (.tail _ m)) q
theorem jF{n i g:Nat}{Q:V->H->Prop}(S:Sane U)(hu:bF h x U)
  (hy:x.bl[i]?=some y)(hb:U.blocks[i]?=some b)(hg:h g=some (.list (aB B)))(hB:B.length=U.blocks.length)
  (q:Q (.int (b7 U B b.end_)) h):ah prog (n+2) .iV [.ref x.u,.ref y.b,.ref g] Q h:=by
 have K:=hu.gY i y b hy hb
 have s:=S.gY i b hb
 have hc:=S.cnt
 refine bJ rfl ?_;refine ay K.b rfl ?_;refine uj (cO s.kZ (by decide)) λ a ha=>?_
 refine dc (aa ..) (cO s.kZ (by decide)) (λ r hr=>by have:=s.ends r hr;exact aS [_,_] (Pl X0 (Nm 1)) (Nm 100000) 1 X1 (Nm 900) 1 (Pl X0 (Nm 1)) X1 rfl hc this) ?_
 have bI:=aA (o:=.list (aB b.end_.reads)) ha
 refine ay (K.le bI).b rfl ?_;refine gR λ c OQ=>?_
 have cq:=aX (o:=.list (aB b.end_.blocks)) bI OQ
 refine cA (aa ..) (by cases b.end_<;>exact sm rfl) ?_
 exact D1 S (hu.le cq) (cq _ _ hg) hB (aa ..) b.end_.blocks _ none s.to λ z=>bD cq q
theorem kP{Q:V->H->Prop}(ho:o.ok)(hr:∀r∈o.e9,r<1000)(q:Q (.int (bP o a)) h):
  ah prog (n+3) .j7 [o.v,.int a] Q h:=by
 have hl:o.reads.length<1000000/\o.writes.length<1000000:=by cases o<;>exact⟨sm rfl,sm rfl⟩
 refine bJ rfl ?_;refine dN λ x hx=>?_;refine dc (aa ..) hl.2 (λ r h=>Nat.lt_trans (hr r (mA _ h)) (by decide)) ?_;refine kt ?_
 refine gU ho λ y hy=>?_;refine dc (aa ..) hl.1 (λ r h=>Nat.lt_trans (hr r (kU _ h)) (by decide)) ?_;refine IM ?_
 exact bD (aX (aA hx) hy) q
theorem u4:∀(os:List Op) (e:Nat),(jO os e).length=os.length:=by
 intro xR
 induction xR with
 |nil=>
  intro _
  exact rfl
 |cons _ os aU=>
  intro e
  exact congrArg (·+1) (aU e)
theorem u5:∀(os:List Op) (e:Nat),cK os e=os.foldr bP e:=by
 intro xR
 induction xR with
 |nil=>
  intro _
  exact rfl
 |cons o os aU=>
  intro e
  exact congrArg (bP o) (aU e)
theorem rN(os:List Op)(e:Nat):cK os e=os.reverse.foldl (λ a o=>bP o a) e:=by rw[List.foldl_reverse,u5]
noncomputable def jU:List Op->Nat->List Nat
 |[],_=>[]
 |o::os,a=>a::jU os (bP o a)
theorem uk(o:Op):∀(os:List Op) (a:Nat),jU (os++[o]) a=jU os a++[os.foldl (λ a o=>bP o a) a]:=by
 intro xR
 induction xR with
 |nil=>
  intro _
  exact rfl
 |cons p os aU=>
  intro a
  exact congrArg (a::·) (aU _)
theorem Bd:∀(os:List Op) (e:Nat),jO os e=(jU os.reverse e).reverse:=by
 intro xR
 induction xR with
 |nil=>
  intro _
  exact rfl
 |cons o os aU=>
  intro e
  rw[List.reverse_cons,uk,List.reverse_append,←aU e,←rN];rfl
theorem ul:∀(os:List Op) (e:Nat),(jU os e).length=os.length:=by
 intro xR
 induction xR with
 |nil=>
  intro _
  exact rfl
 |cons _ os aU=>
  intro e
  exact congrArg (·+1) (aU _)
theorem D2{K:Out->Fr->H->Prop}(hc:h c=some (.list l)):∀(E:List Op) (a:Nat) (z:Option V),(∀o∈E,o.ok/\∀r∈o.e9,r<1000)->
  (∀z,K .next [some (.ref u),some (.ref yb),some (.ref g),some (.int (E.foldl (λ a o=>bP o a) a:Nat)),z] h)->
  cw [4] (wB (ah prog (n+3)) iG) (λ h'=>h' c=some (.list l)) (E.map Op.v) [some (.ref u),some (.ref yb),some (.ref g),some (.int a),z] K h:=by
 intro xR
 induction xR with
 |nil=>
  intro a z _ q
  exact kR hc (q z)
 |cons o E aU=>
  intro a z b q
  have ho:=b o (.head _)
  refine f9 hc ?_;refine kP ho.1 ho.2 ?_;exact aU _ _ (λ o m=>b o (.tail _ m)) q
theorem Gs(S:Sane U){i:Nat}(hb:U.blocks[i]?=some b):∀o∈b.ops.reverse,o.ok/\∀r∈o.e9,r<1000:=λ o m=>
 have s:=(S.gY i b hb).ops o (List.mem_reverse.mp m)
 ⟨s.1,λ r hr=>kI (s.2 r hr) (cV S.cnt (by decide))⟩
theorem be{α β:Type}{f:α->β}{l:List α}(h:l.length<=10):(l.map f).length<aZ:=by rw[dR];exact cO h (by decide)
theorem ou{n i g:Nat}{Q:V->H->Prop}(S:Sane U)(hu:bF h x U)
  (hy:x.bl[i]?=some y)(hb:U.blocks[i]?=some b)(hg:h g=some (.list (aB B)))(hB:B.length=U.blocks.length)
  (q:Q (.int (cp U B b)) h):ah prog (n+4) .jh [.ref x.u,.ref y.b,.ref g] Q h:=by
 have Kb:=hu.gY i y b hy hb
 have s:=S.gY i b hb
 refine bJ rfl ?_;refine jF S hu hy hb hg hB ?_;refine ay Kb.b rfl ?_;refine I9 Kb.o (be s.oF) λ a ha=>?_
 rw[←List.map_reverse]
 refine cA (aa ..) (be (by rw[List.length_reverse];exact s.oF)) ?_
 exact D2 (aa ..) b.ops.reverse _ none (Gs S hb) λ z=>bD (aA ha) (by rw[←rN];exact q)
theorem xC{K:Out->Fr->H->Prop}(hc:h c=some (.list l))(hf:c≠f):∀(E:List Op) (a:Nat) (F:List Nat) (z:Option V),(∀o∈E,o.ok/\∀r∈o.e9,r<1000)->F.length+E.length<=10->
  (∀(a':Nat) z,K .next [some (.ref u),some (.ref yb),some (.ref g),some (.int a'),some (.ref f),z] (aC h f (.list (aB (F++jU E a)))))->
  cw [5] (wB (ah prog (n+3)) jB) (λ h'=>h' c=some (.list l)) (E.map Op.v) [some (.ref u),some (.ref yb),some (.ref g),some (.int a),some (.ref f),z] K (aC h f (.list (aB F))):=by
 intro xR
 induction xR with
 |nil=>
  intro a F z _ _ q
  have:=q a z
  simp only[jU,eE] at this
  exact kR (ag hc hf) this
 |cons o E aU=>
  intro a F z b k q
  have ho:=b o (.head _)
  have k':F.length+(E.length+1)<=10:=k
  have ih:=aU (bP o a) (F++[a]) (some o.v) (λ o m=>b o (.tail _ m)) (by rw[eQ];show F.length+1+_<=_;exact ai [_,_] (Pl (Pl X0 (Nm 1)) X1) (Nm 10) 1 (Pl X0 (Pl X1 (Nm 1))) (Nm 10) rfl k') (λ a' z=>by simp only[d6];exact q a' z)
  rw[bg,←a9 h f (.list (aB F))] at ih
  refine f9 (ag hc hf) ?_;refine bC (aa ..) ?_;refine cb (aa ..) (by rw[ac];unfold aZ;exact ai [_,_] (Pl X0 (Nm 1)) (Nm 1000000) 1 (Pl X0 (Pl X1 (Nm 1))) (Nm 10) rfl k') ?_;refine kP ho.1 ho.2 ?_;exact ih
theorem qU{n i g:Nat}{Q:V->H->Prop}(S:Sane U)(hu:bF h x U)
  (hy:x.bl[i]?=some y)(hb:U.blocks[i]?=some b)(hg:h g=some (.list (aB B)))(hB:B.length=U.blocks.length)
  (q:∀a,h a=none->Q (.ref a) (aC h a (.list (aB (jO b.ops (b7 U B b.end_)))))):ah prog (n+4) .lZ [.ref x.u,.ref y.b,.ref g] Q h:=by
 have Kb:=hu.gY i y b hy hb
 have s:=S.gY i b hb
 refine bJ rfl ?_;refine jF S hu hy hb hg hB ?_;refine bf (sm rfl) λ f hf=>?_
 have Kf:=Kb.le (aA (o:=.list []) hf)
 refine ay Kf.b rfl ?_;refine I9 Kf.o (be s.oF) λ a ha=>?_
 have IV:=(aD ha).1
 rw[←List.map_reverse,c6 IV.symm]
 refine cA (ag (aa ..) IV) (be (by rw[List.length_reverse];exact s.oF)) ?_
 refine xC (aa ..) IV b.ops.reverse _ [] none (Gs S hb) (by rw[List.length_reverse];exact cV (bw (Nat.zero_add _)) s.oF) λ a' z=>?_
 refine I9 (aa ..) (by simp only[ac,List.nil_append,ul,List.length_reverse];exact cO s.oF (by decide)) λ r hr=>?_
 refine bD (jb ?_ (aX (aQ (aA (aD ha).2) hf) hr)) (q r (aD (aD hr).2).2)
 simp only[aa,List.nil_append,Bd]
 unfold aB
 rw[List.map_reverse]
structure LL (h:H) (F:Nat) (ls:List Nat) (P:List (List Nat)):Prop where
 f:h F=some (.list (ls.map .ref))
 nd:ls.Nodup
 nf:F∉ls
 len:ls.length=P.length
 CJ:∀(j a:Nat) (l:List Nat),ls[j]?=some a->P[j]?=some l->h a=some (.list (aB l))
theorem LL.set(x:LL h F ls P)(ha:ls[j]?=some a)(l:List Nat):LL (aC h a (.list (aB l))) F ls (P.set j l):=by
 have hm:=mB ha
 refine⟨by rw[bu (by rintro rfl;exact x.nf hm)];exact x.f,x.nd,x.nf,by simp only[List.length_set];exact x.len,λ i b m hb kL=>?_⟩
 by_cases e:i=j
 ·subst e
  rw[ha] at hb;obtain rfl:=c8 hb
  rw[List.getElem?_set_self'] at kL
  cases q:P[i]? with
  |none=>rw[q] at kL;exact dD kL
  |some _=>rw[q] at kL;obtain rfl:=c8 kL;exact aa ..
 ·rw[List.getElem?_set_ne (Ne.symm e)] at kL
  have:b≠a:=by
   rintro rfl
   have hi:=(fQ hb)
   have hj:=(fQ ha)
   refine aK hi λ YL SV=>?_
   refine aK hj λ YM WR=>?_
   exact e ((List.getElem_inj x.nd).mp (SV.trans WR.symm))
  rw[bu this];exact x.CJ i b m hb kL
theorem LL.get(x:LL h F ls P)(hj:j<P.length):∃a,ls[j]?=some a/\h a=some (.list (aB ((P[j]?).getD []))):=by
 have e:=kH hj
 have e1:=kH (show j<ls.length by simp only[x.len];exact hj)
 refine⟨_,e1,?_⟩
 rw[e];exact x.CJ j _ _ e1 e
theorem LL.keep(k:le h h')(x:LL h F ls P):LL h' F ls P:=⟨k _ _ x.f,x.nd,x.nf,x.len,λ i a l p q=>k _ _ (x.CJ i a l p q)⟩
theorem CX{dG:H->Prop}{K:List V->H->Prop}(hc:∀h',le h₀ h'->dG h'):∀(vs:List V) (ls:List Nat) (h:H),le h₀ h->(∀a∈ls,h₀ a=none/\h a=some (.list []))->ls.Nodup->
  (∀(OA:List Nat) h',le h₀ h'->(∀a∈OA,h₀ a=none/\h' a=some (.list []))->OA.Nodup->OA.length=ls.length+vs.length->K (OA.map .ref) h')->
  dY bp (kJ C lq) (wE C (.list .nil)) dG fr vs (ls.map .ref) K h:=by
 intro xR
 induction xR with
 |nil=>
  intro ls h l f n q
  exact R9 (hc _ l) (q ls h l f n rfl)
 |cons v vs aU=>
  intro ls h l f n q
  refine R8 (hc _ l) ?_;refine bf (sm rfl) λ a ha=>?_
  have ih:=aU (ls++[a]) (aC h a (.list [])) (aX l ha) (λ b m=>by
   rcases gP m with m|m
   ·exact⟨(f b m).1,ax (f b m).2 ha⟩
   ·rw[cP m];exact⟨bn l ha,aa ..⟩) (List.nodup_append.mpr ⟨n,List.nodup_cons.mpr ⟨List.not_mem_nil,List.nodup_nil⟩,λ b m c m'=>by
    rw[cP m'];exact aj (f b m).2 ha⟩) (λ OA h' l' f' n' e=>q OA h' l' f' n' (by simp only[e,eQ];show ls.length+1+_=_+(_+1);exact dP (aL [_,_] (Pl (Pl X0 (Nm 1)) X1) (Pl X0 (Pl X1 (Nm 1))) rfl) (aL [_,_] (Pl X0 (Pl X1 (Nm 1))) (Pl (Pl X0 (Nm 1)) X1) rfl)))
  simp only[iD] at ih
  exact ih
theorem G4{K:Out->Fr->H->Prop}(hu:bF h₀ x U)(I:Nat->Fr->H->Prop)(hl:∀k fr h,I k fr h->le h₀ h)
  (Jc:∀k y b fr h (G:Out->Fr->H->Prop),x.bl[k]?=some y->U.blocks[k]?=some b->bF h x U->nk h k y b->I k fr h->(∀fj h',I (k+1) fj h'->G .next fj h')->wB C B (fr.set bp (some (.ref y.b))) G h)
  (aY:∀fr h,I U.blocks.length fr h->K .next fr h):∀(r k:Nat),k+r=U.blocks.length->∀fr h,I k fr h->
  cw [bp] (wB C B) (λ h'=>h' x.bs=some (.list (x.bl.map λ y=> .ref y.b))) ((x.bl.drop k).map λ y=> .ref y.b) fr K h:=by
 intro xR
 induction xR with
 |zero=>
  intro k e fr h i
  have e:k=U.blocks.length:=e
  rw[List.drop_eq_nil_of_le (by simp only[hu.len,e];exact bE _)]
  exact DM (hl _ _ _ i _ _ hu.bs) (aY fr h (e ▸ i))
 |succ r aU=>
  intro k e fr h i
  have tW:=hu.le (hl _ _ _ i)
  obtain⟨y,b,e1,e2,Kb⟩:=tW.at_ (show k<U.blocks.length by exact ai [_,_,_] (Pl X0 (Nm 1)) X1 1 (Pl X0 (Pl X2 (Nm 1))) X1 rfl (bw e))
  have hk:=(fQ e1)
  simp only[List.drop_eq_getElem_cons hk.1,hk.2]
  exact IU (hl _ _ _ i _ _ hu.bs) (Jc k y b fr h _ e1 e2 tW Kb i λ fj h' i'=>aU (k+1) (by exact dP (ai [_,_,_] (Pl (Pl X0 (Nm 1)) X1) X2 1 (Pl X0 (Pl X1 (Nm 1))) X2 rfl (bw e)) (ai [_,_,_] X0 (Pl (Pl X1 (Nm 1)) X2) 1 X0 (Pl X1 (Pl X2 (Nm 1))) rfl (bw e.symm))) fj h' i')
theorem pq{K:Out->Fr->H->Prop}(hu:bF h₀ x U)(I:Nat->Fr->H->Prop)(hl:∀k fr h,I k fr h->le h₀ h)
  (Jc:∀k y b fr h (G:Out->Fr->H->Prop),x.bl[k]?=some y->U.blocks[k]?=some b->bF h x U->nk h k y b->I k fr h->(∀fj h',I (k+1) fj h'->G .next fj h')->wB C B (fr.set bp (some (.ref y.b))) G h)
  (aY:∀fr h,I U.blocks.length fr h->K .next fr h)(i:I 0 fr h):cw [bp] (wB C B) (λ h'=>h' x.bs=some (.list (x.bl.map λ y=> .ref y.b))) (x.bl.map λ y=> .ref y.b) fr K h:=
 G4 hu I hl Jc aY U.blocks.length 0 (Nat.zero_add _) fr h i
noncomputable def gV(P:List (List Nat))(i j:Nat):List (List Nat):=if i∈(P[j]?).getD [] then P else P.set j ((P[j]?).getD []++[i])
noncomputable def pw(P:List (List Nat))(i:Nat)(b:Block):List (List Nat):=b.end_.blocks.foldl (λ P j=>gV P i j) P
noncomputable def jV:List Block->Nat->List (List Nat)->List (List Nat)
 |[],_,P=>P
 |b::bs,i,P=>jV bs (i+1) (pw P i b)
noncomputable def oP(U:Un):List (List Nat):=jV U.blocks 0 (List.replicate U.blocks.length [])
theorem um:(gV P i j).length=P.length:=by unfold gV;split<;>simp
structure jd (n:Nat) (R:Nat->Nat->Prop) (P:List (List Nat)):Prop where
 len:P.length=n
 mem:∀(j:Nat) (l:List Nat),P[j]?=some l->(∀i,R i j->i∈l)/\l.Nodup/\∀i∈l,i<n
set_option tactic.hygienic true in
theorem Be {R : Nat -> Nat -> Prop} (x : jd n R P) (hi : i < n) : jd n (λ a b => R a b \/ (a = i /\ b = j)) (gV P i j) := by
  refine ⟨by rw [um]; exact x.len, λ k l hl => ?_⟩
  unfold gV at hl
  split at hl
  · rename_i hm
    refine fy (x.mem k l hl) λ a b c => ?_
    refine ⟨λ m kL => ?_, b, c⟩
    rcases kL with r | ⟨rfl, rfl⟩
    · exact a m r
    · rw [hl] at hm; exact hm
  · rename_i hm
    by_cases e : k = j
    · subst e
      rw [List.getElem?_set_self'] at hl
      cases q : P[k]? with
      | none => rw [q] at hl; exact dD hl
      | some jI =>
        rw [q] at hl hm
        obtain rfl := c8 hl
        refine fy (x.mem k jI q) λ a b c => ?_
        simp only [Option.getD_some] at hm ⊢
        refine ⟨λ m kL => ?_, ?_, λ m kL => ?_⟩
        · rcases kL with r | ⟨rfl, _⟩
          · exact kU _ (a m r)
          · simp
        · simp only [Function.const]
          rw [List.nodup_append]
          exact ⟨b, by simp, λ y hy z hz => by obtain rfl := cP hz; rintro rfl; exact hm hy⟩
        · rcases gP kL with y | y
          · exact c m y
          · obtain rfl := cP y; exact hi
    · rw [List.getElem?_set_ne (Ne.symm e)] at hl
      refine fy (x.mem k l hl) λ a b c => ?_
      refine ⟨λ m kL => ?_, b, c⟩
      rcases kL with r | ⟨_, r⟩
      · exact a m r
      · exact absurd r e
theorem jd.imp{R R':Nat->Nat->Prop}(x:jd n R P)(h:∀a b,R' a b->R a b):jd n R' P:=
 ⟨x.len,λ j l hl=>⟨λ i r=>(x.mem j l hl).1 i (h _ _ r),(x.mem j l hl).2⟩⟩
theorem zF{R:Nat->Nat->Prop}(x:jd n R P)(hi:i<n):jd n (λ a j=>R a j\/(a=i/\j∈b.end_.blocks)) (pw P i b):=by
 unfold pw
 generalize b.end_.blocks=l
 induction l generalizing P R with
 |nil=>exact x.imp λ a j h=>h.elim id λ h=>nomatch h.2
 |cons j l ih=>
  simp only[List.foldl_cons]
  refine(ih (Be (j:=j) x hi)).imp λ a k h=>?_
  rcases h with h|⟨rfl,h⟩
  ·exact .inl (.inl h)
  ·rcases ci h with rfl|h
   ·exact .inl (.inr ⟨rfl,rfl⟩)
   ·exact .inr ⟨rfl,h⟩
theorem Bf:∀{bs:List Block} {k:Nat} {R:Nat->Nat->Prop} {P:List (List Nat)},jd n R P->k+bs.length<=n->
  jd n (λ a j=>R a j\/∃m b,bs[m]?=some b/\a=k+m/\j∈b.end_.blocks) (jV bs k P):=by
 intro xR
 induction xR with
 |nil=>
  intro k R P x _
  exact x.imp λ a j h=>h.elim id λ hP=>by refine fh hP λ m b e u0=>?_;exact nomatch e
 |cons b bs aU=>
  intro k R P x h
  dsimp only[jV]
  simp only[List.length_cons] at h
  refine(aU (zF (b:=b) x (by exact ai [_,_,_] (Pl X0 (Nm 1)) X1 1 (Pl X0 (Pl X2 (Nm 1))) X1 rfl h:k<n)) (by exact ai [_,_,_] (Pl (Pl X0 (Nm 1)) X1) X2 1 (Pl X0 (Pl X1 (Nm 1))) X2 rfl h)).imp λ a j q=>?_
  rcases q with q|⟨m,c,e,rfl,hj⟩
  ·exact .inl (.inl q)
  ·cases m with
   |zero=>simp at e;subst e;exact .inl (.inr ⟨rfl,hj⟩)
   |succ m=>exact .inr ⟨m,c,by simpa using e,by exact dP (aL [_,_] (Pl X0 (Pl X1 (Nm 1))) (Pl (Pl X0 (Nm 1)) X1) rfl) (aL [_,_] (Pl (Pl X0 (Nm 1)) X1) (Pl X0 (Pl X1 (Nm 1))) rfl),hj⟩
theorem pA:jd U.blocks.length (λ i j=>∃b,U.blocks[i]?=some b/\j∈b.end_.blocks) (oP U):=by
 unfold oP
 refine(Bf (n:=U.blocks.length) (bs:=U.blocks) (k:=0) (R:=λ u0 u0=>False) ⟨by simp,λ j l hl=>?_⟩ (by exact aL [_] (Pl (Nm 0) X0) X0 rfl)).imp λ a j hP=>by refine aG hP λ b e hj=>?_;exact .inr ⟨a,b,e,by exact dP (aL [_] X0 (Pl (Nm 0) X0) rfl) (aL [_] (Pl (Nm 0) X0) X0 rfl),hj⟩
 rw[List.getElem?_replicate] at hl
 split at hl
 ·obtain rfl:=c8 hl;simp
 ·exact dD hl
theorem End.nP(e:End):e.blocks.length<=2:=by cases e<;>simp[End.blocks]
theorem Bg(h:i∈(P[j]?).getD []):gV P i j=P:=if_pos h
theorem zG(h:i∉(P[j]?).getD []):gV P i j=P.set j ((P[j]?).getD []++[i]):=if_neg h
theorem mT{P:List (List Nat)}{s j:Nat}(h:∀l∈P,l.length<=s):((P[j]?).getD []).length<=s:=by
 cases e:P[j]? with
 |none=>exact dz _
 |some l=>exact h l (mB e)
theorem tw{P:List (List Nat)}(h:∀l∈P,l.length<=s)(hl:l.length<=s):∀m∈P.set j l,m.length<=s:=λ m hm=>by
 rcases List.mem_or_eq_of_mem_set hm with hm|rfl
 ·exact h m hm
 ·exact hl
theorem Bh{x:UA}{K:Out->Fr->H->Prop}(hu:nk h₀ k y b)(hk:c≠F)(OB:∀a∈ls,h₀ a=none/\c≠a):
  ∀(T:List Nat) (P:List (List Nat)) (h:H) (s:Nat) (w:Option V),LL h F ls P->le h₀ h->h c=some (.list l)->(∀j∈T,j<P.length)->(∀l∈P,l.length<=s)->s+T.length<=1000->
  (∀h' w,LL h' F ls (T.foldl (λ P j=>gV P k j) P)->le h₀ h'->(∀l∈T.foldl (λ P j=>gV P k j) P,l.length<=s+T.length)->K .next [some (.ref x.u),some (.ref F),some (.ref y.b),w,none] h')->
  cw [3] (wB C i7) (λ h'=>h' c=some (.list l)) (aB T) [some (.ref x.u),some (.ref F),some (.ref y.b),w,none] K h:=by
 intro xR
 induction xR with
 |nil=>
  intro P h s w L hl hc _ z _ q
  exact kR hc (q h w L hl z)
 |cons j T aU=>
  intro P h s w L hl hc t z g q
  have hj:=t j (.head _)
  have g':s+(T.length+1)<=1000:=g
  refine aG (L.get hj) λ a e1 e2=>?_
  have Vx:=mB e1
  have Kb:=hu.le hl
  have hs:=mT (j:=j) z
  refine f9 hc ?_;refine ay Kb.b rfl ?_;refine cQ L.f (xM e1) ?_;refine Dy e2 og (by rw[ac];unfold aZ;exact aS [_,_,_] (Pl X0 (Nm 1)) (Nm 1000000) 1 (Pl X1 (Pl X2 (Nm 1))) (Nm 1000) 1 X0 X1 rfl g' hs) (λ m=>?_) (λ m=>?_)
  ·have q':=q
   simp only[List.foldl_cons,Bg (lP.mp m)] at q'
   exact aU P h (s+1) _ L hl hc (λ j m=>t j (.tail _ m)) (λ l m=>Nat.le_succ_of_le (z l m)) (by exact ai [_,_] (Pl (Pl X0 (Nm 1)) X1) (Nm 1000) 1 (Pl X0 (Pl X1 (Nm 1))) (Nm 1000) rfl g') (λ h' w a b c=>q' h' w a b λ l m=>cV (c l m) (by show _<=s+(T.length+1);exact aL [_,_] (Pl (Pl X0 (Nm 1)) X1) (Pl X0 (Pl X1 (Nm 1))) rfl))
  ·have q':=q
   simp only[List.foldl_cons,zG (λ r=>m (lP.mpr r))] at q'
   have L':=L.set e1 ((P[j]?).getD []++[k])
   rw[bg] at L'
   refine cQ L.f (xM e1) ?_;refine bC e2 ?_;refine ay Kb.b rfl ?_;refine cb e2 (by rw[ac];unfold aZ;exact aS [_,_,_] (Pl X0 (Nm 1)) (Nm 1000000) 1 (Pl X1 (Pl X2 (Nm 1))) (Nm 1000) 1 X0 X1 rfl g' hs) ?_
   exact aU _ _ (s+1) _ L' (aQ hl (OB a Vx).1) (ag hc (OB a Vx).2) (λ j m=>by rw[List.length_set];exact t j (.tail _ m)) (tw (λ l m=>Nat.le_succ_of_le (z l m)) (by rw[eQ];exact jj hs)) (by exact ai [_,_] (Pl (Pl X0 (Nm 1)) X1) (Nm 1000) 1 (Pl X0 (Pl X1 (Nm 1))) (Nm 1000) rfl g')
    (λ h' w a b c=>q' h' w a b λ l m=>cV (c l m) (by show _<=s+(T.length+1);exact aL [_,_] (Pl (Pl X0 (Nm 1)) X1) (Pl X0 (Pl X1 (Nm 1))) rfl))
theorem LL.start(hF:h F=none)(ha:∀a∈ls,h a=some (.list []))(hn:ls.Nodup)(hl:ls.length=N):LL (aC h F (.list (ls.map .ref))) F ls (List.replicate N []):=
 ⟨aa ..,hn,(λ m=>by rw[ha F m] at hF;exact AB hF),by rw[List.length_replicate];exact hl,λ j a l hj hl=>by
  rw[List.getElem?_replicate] at hl
  split at hl
  ·obtain rfl:=c8 hl;exact ax (ha a (mB hj)) hF
  ·cases hl⟩
theorem xD{U:Un}(e:U.blocks[k]?=some b)(P:List (List Nat)):jV (U.blocks.drop k) k P=jV (U.blocks.drop (k+1)) (k+1) (pw P k b):=by
 refine aK (fQ e) λ h e=>?_
 rw[List.drop_eq_getElem_cons h,e];rfl
theorem pT{Q:V->H->Prop}(S:Sane U)(hu:bF h x U)
  (q:∀F ls h',h F=none->(∀a∈ls,h a=none)->le h h'->LL h' F ls (oP U)->Q (.ref F) h'):ah prog (n+2) .kj [.ref x.u] Q h:=by
 have cT:=S.len
 have DN:=hu.len
 refine bJ rfl ?_;refine ay hu.u rfl ?_;refine cA hu.bs (be (by exact aS [_,_] X0 (Nm 10) 1 X1 (Nm 10) 1 X0 X1 rfl cT (bw DN))) ?_
 refine CX (λ h' l=>l _ _ hu.bs) _ [] h (av _) (λ u0 m=>nomatch m) List.nodup_nil λ ls bB bI ha hn IN=>?_
 have IN:ls.length=U.blocks.length:=by simp only[IN,dR];simpa using DN
 refine bf (by rw[dR];unfold aZ;exact aS [_,_] (Pl X0 (Nm 1)) (Nm 1000000) 1 X1 (Nm 10) 1 X0 X1 rfl cT (bw IN)) λ F hF=>?_
 have cq:=aX (o:=.list (ls.map .ref)) bI hF
 have Sa:=bn bI hF
 have dM:=hu.le cq
 refine ay dM.u rfl ?_;refine cA dM.bs (be (by exact aS [_,_] X0 (Nm 10) 1 X1 (Nm 10) 1 X0 X1 rfl cT (bw DN))) ?_
 refine pq hu (λ k fr h'=>le h h'/\∃P z w,LL h' F ls P/\jV (U.blocks.drop k) k P=oP U/\(∀l∈P,l.length<=2*k)/\fr=[some (.ref x.u),some (.ref F),z,w,none]) (λ u0 u0 u0 i=>i.1) ?_ ?_
  ⟨cq,_,none,none,LL.start hF (λ a m=>(ha a m).2) hn IN,rfl,λ l m=>by rw[(List.mem_replicate.mp m).2];exact dz _,rfl⟩
 ·rintro k y b fr h' G e1 e2 tW Kb ⟨hl,P,z,w,L,hP,hs,rfl⟩ kn
  have s:=S.gY k b e2
  refine ay Kb.b rfl ?_;refine gR λ c hc=>?_
  refine cA (aa ..) (by cases b.end_<;>exact sm rfl) ?_
  have WS:P.length=U.blocks.length:=by simp only[←L.len,IN]
  have l2:=b.end_.nP
  have hk:=(fQ e2).1
  refine Bh (hu.gY k y b e1 e2) (aj L.f hc).symm (λ a m=>⟨(ha a m).1,?_⟩) b.end_.blocks P _ (2*k) w (L.keep (aA hc)) (aX hl hc) (aa ..) (λ j m=>by rw[WS];exact s.to j m) hs (by exact fH [_,_,_] (Pl (Ml 2 X0) X1) (Nm 1000) 2 X2 (Nm 10) 1 X1 (Nm 2) 2 (Pl X0 (Nm 1)) X2 rfl cT l2 hk) λ oA w L' Ae rC=>?_
  ·refine aK (List.mem_iff_getElem?.mp m) λ j e=>?_
   have:=L.get (j:=j) (by rw[←L.len];exact(fQ e).1)
   refine aG this λ a' e' OR=>?_
   rw[e] at e';obtain rfl:=c8 e'
   exact(aj OR hc).symm
  ·exact kn _ _ ⟨Ae,_,_,w,L',by simp only[←hP,xD e2];rfl,λ l m=>cV (rC l m) (by exact ai [_,_] (Pl (Ml 2 X0) X1) (Ml 2 (Pl X0 (Nm 1))) 1 X1 (Nm 2) rfl l2),rfl⟩
 ·rintro fr h' ⟨hl,P,z,w,L,hP,hs,rfl⟩
  rw[List.drop_eq_nil_of_le (bE _)] at hP
  have hP:P=oP U:=hP
  exact bD (av _) (q F ls h' Sa (λ a m=>(ha a m).1) hl (hP ▸ L))
theorem NP{x0 x1 x2:Nat}(h0:x0<x1)(h1:x2<x0):(x1-x0)<(x1-x2):=ai [(x1-x0),(x1-x2),x0,x1,x2] (Pl X0 (Nm 1)) X1 1 (Pl (Pl (Pl X4 (Nm 1)) (Pl X0 X2)) X3) (Pl (Pl X2 X3) (Pl X1 X4)) rfl (bQ (bQ h1 (AA (ai [x0,x1,x2] X0 X1 1 (Pl X0 (Nm 1)) X1 rfl h0))) (Az _ _))
noncomputable def sub(a b:Nat):Prop:=∀i,a.testBit i=true->b.testBit i=true
theorem lR(a:Nat):sub a a:=λ u0 h=>h
theorem qA(x:sub a b)(y:sub b c):sub a c:=λ i h=>y i (x i h)
theorem tn(a:Nat):sub 0 a:=λ i h=>by simp at h
theorem D3(x:sub a b):a<=b:=by
 have:a|||b=b:=Nat.eq_of_testBit_eq λ i=>by
  rw[Nat.testBit_or];cases h:a.testBit i with
  |false=>rfl
  |true=>rw[x i h];rfl
 rw[←this];exact Nat.left_le_or
theorem CY(x:sub a c)(y:sub b d):sub (io a b) (io c d):=λ i h=>by
 rw[bh,Bool.or_eq_true] at h⊢;exact h.imp (x i) (y i)
theorem CZ(x:sub a c):sub (rT a b) (rT c b):=λ i h=>by
 rw[ft,Bool.and_eq_true] at h⊢;exact⟨x i h.1,h.2⟩
theorem u6(x:sub a b):sub (bP o a) (bP o b):=CY (CZ x) (lR _)
theorem zH:∀{os:List Op} {a b:Nat},sub a b->sub (cK os a) (cK os b):=by
 intro xR
 induction xR with
 |nil=>
  intro _ _ x
  exact x
 |cons _ _ aU=>
  intro _ _ x
  exact u6 (aU x)
noncomputable def Af(B K:List Nat):Prop:=∀i:Nat,sub ((B[i]?).getD 0) ((K[i]?).getD 0)
theorem zI(x:Af B K):sub (b7 U B e) (b7 U K e):=by
 unfold b7
 have:∀(l:List Nat) (m k:Nat),sub m k->sub (l.foldl (λ m j=>io m (rT ((B[j]?).getD 0) (b8 (U.par j)))) m) (l.foldl (λ m j=>io m (rT ((K[j]?).getD 0) (b8 (U.par j)))) k):=by
  intro l
  induction l with
  |nil=>intro m k x;exact x
  |cons j l ih=>intro m k y;exact ih _ _ (CY y (CZ (x j)))
 exact this _ _ _ (lR _)
theorem qB(x:Af B K):sub (cp U B b) (cp U K b):=zH (zI x)
theorem u7(x:∀j∈e.blocks,B[j]?=K[j]?):b7 U B e=b7 U K e:=by
 unfold b7
 have:∀(l:List Nat) (m:Nat),(∀j∈l,B[j]?=K[j]?)->l.foldl (λ m j=>io m (rT ((B[j]?).getD 0) (b8 (U.par j)))) m=l.foldl (λ m j=>io m (rT ((K[j]?).getD 0) (b8 (U.par j)))) m:=by
  intro l
  induction l with
  |nil=>intro m _;rfl
  |cons j l ih=>intro m y;simp only[List.foldl_cons,List.foldl_cons,y j List.mem_cons_self];exact ih _ λ k hk=>y k (List.mem_cons_of_mem _ hk)
 exact this _ _ x
theorem zJ(x:∀j∈b.end_.blocks,B[j]?=K[j]?):cp U B b=cp U K b:=by unfold cp;rw[u7 x]
theorem ir{l:List Nat}(hn:l.Nodup)(hl:∀i∈l,i<n):l.length<=n:=by
 induction n generalizing l with
 |zero=>cases l with
  |nil=>simp
  |cons a l=>exact absurd (hl a List.mem_cons_self) (by exact Nat.not_lt_of_le (aL [_] (Nm 0) X0 rfl))
 |succ n ih=>
  have h1:=ih (l:=l.filter λ i=>decide (i<n)) (hn.filter _) (λ i hi=>by simpa using(List.mem_filter.mp hi).2)
  have h2:l.length<=(l.filter λ i=>decide (i<n)).length+1:=by
   clear ih h1
   induction l with
   |nil=>simp
   |cons a l ih=>
    refine bV (kY hn) λ ha IP=>?_
    have:=ih IP λ i hi=>hl i (List.mem_cons_of_mem _ hi)
    by_cases e:a<n
    ·simp[e];exact ai [_,_] X0 (Pl X1 (Nm 1)) 1 X0 (Pl X1 (Nm 1)) rfl this
    ·have ea:a=n:=by have:=hl a List.mem_cons_self;exact dP (ai [_,_] X0 X1 1 (Pl X0 (Nm 1)) (Pl X1 (Nm 1)) rfl this) (ai [_,_] X0 X1 1 X0 X1 rfl (Nat.le_of_not_lt e))
     have:l.filter (λ i=>decide (i<n))=l:=List.filter_eq_self.mpr λ i hi=>by
      have Ae:=hl i (List.mem_cons_of_mem _ hi)
      have:i≠a:=by rintro rfl;exact ha hi
      exact dE (Nat.lt_of_le_of_ne (Nat.le_of_lt_succ Ae) (ea ▸ this))
     simp[e,this]
  exact aS [_,_,_] X0 (Pl X1 (Nm 1)) 1 X2 X1 1 X0 (Pl X2 (Nm 1)) rfl h1 h2
noncomputable def q6(c:Nat)(B:List Nat):Nat:=(B.map λ b=>2^c-b).sum
theorem vB:∀{B:List Nat} {i b:Nat} {x:Nat},B[i]?=some b->b<x->x<2^c->q6 c (B.set i x)<q6 c B
 |[],_,_,_,e,_,_=>by simp at e
 |a::B,0,b,x,e,h1,h2=>by
  simp at e;subst e
  simp[q6];exact NP h2 h1
 |a::B,i+1,b,x,e,h1,h2=>by
  have:=vB (B:=B) (i:=i) (by simpa using e) h1 h2
  simp[q6] at this⊢;exact ai [_,_] (Pl X0 (Nm 1)) X1 1 (Pl X0 (Nm 1)) X1 rfl this
theorem zK:∀(k a:Nat),dH a k=aB ((List.range' a k)):=by
 intro xR
 induction xR with
 |zero=>
  intro _
  exact rfl
 |succ k aU=>
  intro a
  exact congrArg (List.cons _) (aU (a+1))
theorem rO(k:Nat):dH 0 k=aB (List.range k):=by rw[List.range_eq_range'];exact zK k 0
theorem yL(k:Nat):List.replicate k (V.int 0)=aB (List.replicate k 0):=by unfold aB;simp only[List.map_replicate];rfl
theorem tx(L:List Nat)(i x:Nat):(aB L).set i (.int x)=aB (L.set i x):=(List.map_set ..).symm
structure IQ (U:Un) (Kn B W:List Nat):Prop where
 len:B.length=U.blocks.length
 nd:W.Nodup
 lt:∀i∈W,i<U.blocks.length
 eq:∀(i:Nat) (b:Block),i∉W->U.blocks[i]?=some b->B[i]?=some (cp U B b)
 pre:∀(i m:Nat) (b:Block),U.blocks[i]?=some b->B[i]?=some m->sub m (cp U B b)
 Sc:Af B Kn
 bd:∀m∈B,m<2^U.count
theorem IQ.start:IQ U Kn (List.replicate U.blocks.length 0) (List.range U.blocks.length):=by
 refine⟨by simp,List.nodup_range,λ i h=>by simpa using h,λ i b h e=>?_,λ i m b e h=>?_,λ i=>?_,λ m h=>?_⟩
 ·exact absurd (List.mem_range.mpr (fQ e).1) h
 ·rw[List.getElem?_replicate] at h;split at h<;>cases h;exact tn _
 ·rw[List.getElem?_replicate];split<;>exact tn _
 ·rw[(List.mem_replicate.mp h).2];exact Nat.two_pow_pos _
theorem IQ.Fo(x:IQ U Kn B (W++[i]))(hb:U.blocks[i]?=some b)(e:B[i]?=some (cp U B b)):IQ U Kn B W:=by
 refine fy (List.nodup_append.mp x.nd) λ n1 u0 n2=>?_
 refine⟨x.len,n1,λ j h=>x.lt j (kU _ h),λ j c h hc=>?_,x.pre,x.Sc,x.bd⟩
 by_cases q:j=i
 ·subst q;rw[hb] at hc;obtain rfl:=c8 hc;exact e
 ·exact x.eq j c (by simp[h,q]) hc
theorem IQ.step(S:Sane U)(hK:∀(i:Nat) (b:Block),U.blocks[i]?=some b->sub (cp U Kn b) ((Kn[i]?).getD 0))(x:IQ U Kn B (W++[i]))(hb:U.blocks[i]?=some b)
  (e:B[i]?=some m)(hl:(oP U)[i]?=some l):IQ U Kn (B.set i (cp U B b)) (W++l.filter λ j=>decide (j∉W)):=by
 have hi:i<B.length:=(fQ e).1
 refine fy (List.nodup_append.mp x.nd) λ n1 u0 n2=>?_
 refine fy ((pA (U:=U)).mem i l hl) λ p1 p2 p3=>?_
 have Nd:Af B (B.set i (cp U B b)):=λ j=>by
  by_cases q:j=i
  ·subst q;rw[List.getElem?_set_self hi,e];exact x.pre j m b hb e
  ·rw[List.getElem?_set_ne (Ne.symm q)];exact lR _
 refine⟨by simp[x.len],?_,λ j h=>?_,λ j c h hc=>?_,λ j k c hc hk=>?_,λ j=>?_,λ k h=>?_⟩
 ·rw[List.nodup_append]
  refine⟨n1,p2.filter _,λ a ha c hc=>?_⟩
  rintro rfl
  simpa [ha] using(List.mem_filter.mp hc).2
 ·rcases gP h with h|h
  ·exact x.lt j (kU _ h)
  ·exact p3 j (List.mem_filter.mp h).1
 ·have hW:j∉W:=λ q=>h (kU _ q)
  have UB:i∉c.end_.blocks:=λ q=>h (mA _ (List.mem_filter.mpr ⟨p1 j ⟨c,hc,q⟩,by simpa using hW⟩))
  have WT:cp U (B.set i (cp U B b)) c=cp U B c:=zJ λ k hk=>by
   rw[List.getElem?_set_ne (by rintro rfl;exact UB hk)]
  rw[WT]
  by_cases q:j=i
  ·subst q;rw[hb] at hc;obtain rfl:=c8 hc;rw[List.getElem?_set_self hi]
  ·rw[List.getElem?_set_ne (Ne.symm q)];exact x.eq j c (by simp[hW,q]) hc
 ·by_cases q:j=i
  ·subst q;rw[hb] at hc;obtain rfl:=c8 hc
   rw[List.getElem?_set_self hi] at hk;obtain rfl:=c8 hk
   exact qB Nd
  ·rw[List.getElem?_set_ne (Ne.symm q)] at hk
   exact qA (x.pre j k c hc hk) (qB Nd)
 ·by_cases q:j=i
  ·subst q;rw[List.getElem?_set_self hi]
   exact qA (qB x.Sc) (hK j b hb)
  ·rw[List.getElem?_set_ne (Ne.symm q)];exact x.Sc j
 ·rcases List.mem_or_eq_of_mem_set h with h|rfl
  ·exact x.bd k h
  ·exact yK S x.bd hb
theorem Bj{K:List V->H->Prop}(hw:h w=some (.list (aB W)))(ha:h a=some (.list l))(hW:W.length<aZ):∀(E acc:List Nat) (s6:Option V),
  K (aB (acc++E.filter λ j=>decide (j∉W))) h->
  dY 6 (kJ C mh) (wE C mi) (λ h'=>h' a=some (.list l)) [s0,s1,some (.ref w),s3,s4,s5,s6] (aB E) (aB acc) K h:=by
 intro xR
 induction xR with
 |nil=>
  intro acc _ q
  exact SU ha (by simp only[List.filter_nil,eE] at q;exact q)
 |cons j E aU=>
  intro acc s6 q
  refine SR ha ?_;refine Dy hw og (by rw[ac];exact hW) (λ m=>?_) (λ m=>?_)
  ·rw[qg (by simpa using lP.mp m)] at q
   exact aU acc s6 q
  ·rw[rE (by simpa using λ r=>m (lP.mpr r)),←List.singleton_append,←d6] at q
   have ih:=aU (acc++[j]) s6 q
   simp only[bg] at ih
   exact ih
structure BW (U:Un) (Kn:List Nat) (h₀:H) (g w F:Nat) (ls B W:List Nat) (h:H):Prop where
 st:IQ U Kn B W
 le:le h₀ h
 g:h g=some (.list (aB B))
 w:h w=some (.list (aB W))
 L:LL h F ls (oP U)
structure Vy (h₀:H) (g w F:Nat) (ls:List Nat):Prop where
 g0:h₀ g=none
 w0:h₀ w=none
 gw:g≠w
 Fg:F≠g
 Fw:F≠w
 lg:∀a∈ls,a≠g/\a≠w
theorem LL.other(x:LL h F ls P)(hF:F≠a)(hl:∀b∈ls,b≠a):LL (aC h a o) F ls P:=
 ⟨ag x.f hF,x.nd,x.nf,x.len,λ j b l p q=>ag (x.CJ j b l p q) (hl b (mB p))⟩
theorem LL.kA(x:LL h F ls P)(hc:h c=none):∀a∈ls,a≠c:=λ a m=>by
 refine aK (List.mem_iff_getElem?.mp m) λ j e=>?_
 refine aG (x.get (j:=j) (by rw[←x.len];exact(fQ e).1)) λ a' e' OR=>?_
 rw[e] at e';obtain rfl:=c8 e'
 exact aj OR hc
theorem zL{K:Out->Fr->H->Prop}(S:Sane U)(hu:bF h₀ x U)(A:Vy h₀ g w F ls)
  (hK:∀(i:Nat) (b:Block),U.blocks[i]?=some b->sub (cp U Kn b) ((Kn[i]?).getD 0))
  (q:∀B h z y v,BW U Kn h₀ g w F ls B [] h->K .next [some (.ref x.u),some (.ref g),some (.ref w),some (.ref F),z,y,v] h):∀(m:Nat) (B W:List Nat) (h:H) (z y v:Option V),BW U Kn h₀ g w F ls B W h->q6 U.count B*(U.blocks.length+1)+W.length<m->
  cj (wE (ah prog (n+4)) md) (wB (ah prog (n+4)) mj) m [some (.ref x.u),some (.ref g),some (.ref w),some (.ref F),z,y,v] K h:=by
 intro xR
 induction xR with
 |zero=>
  intro _ _ _ _ _ _ _ k
  exact absurd k (Nat.not_lt_zero _)
 |succ m aU=>
  intro B W h z y v X k
  refine kB ?_;refine nX X.w ?_
  rcases List.eq_nil_or_concat W with rfl|⟨W,i,rfl⟩
  ·exact q B h z y v X
  rw[List.concat_eq_append] at X k⊢
  obtain⟨Xs,hl,hg,hw,L⟩:=X
  have hi:=Xs.lt i (mA _ (List.mem_singleton.mpr rfl))
  have Sd:=ir Xs.nd Xs.lt
  have hn:=S.len
  have Se:=Xs.len
  simp only[eQ] at Sd k
  have k:_+(W.length+1)<m+1:=k
  have Sd:W.length+1<=U.blocks.length:=Sd
  simp only[bg] at hw⊢
  refine wj (by cases W<;>rfl) ?_;refine bC hw ?_;refine PE hw (by rw[ac];unfold aZ;exact aS [_,_] (Pl (Pl X0 (Nm 1)) (Nm 1)) (Nm 1000000) 1 X1 (Nm 10) 1 (Pl X0 (Nm 1)) X1 rfl hn Sd) ?_
  have rG:=aQ (o:=.list (aB W)) hl A.w0
  have sT:=hu.le rG
  refine nQ (sT.at_ hi) λ yb b e1 e2 Kb=>?_
  have Cb:=ag (p:=.list (aB W)) hg A.gw
  have Nf:=L.other (o:=.list (aB W)) A.Fw λ a m=>(A.lg a m).2
  have OS:=kH (show i<B.length by simp only[Se];exact hi)
  refine ay sT.u rfl ?_;refine cQ sT.bs (xM e1) ?_;refine ou S sT e1 e2 Cb Se ?_;refine cQ Cb (xM OS) ?_;refine oX (λ e=>?_) (λ e=>?_)
  ·have e:cp U B b≠B[i]:=λ z=>by
    have e':(!decide (((cp U B b:Nat):Int)=((B[i]:Nat):Int)))=true:=e
    simp only[z,dE rfl] at e';exact kK e'
   refine aG (Nf.get (j:=i) (by rw[pA.len];exact hi)) λ a Sf ML=>?_
   refine bV (A.lg a (mB Sf)) λ WU YN=>?_
   obtain⟨li,SW⟩:∃l,(oP U)[i]?=some l:=⟨_,kH (show i<(oP U).length by rw[pA.len];exact hi)⟩
   rw[SW] at ML
   have ML:aC h w (.list (aB W)) a=some (.list (aB li)):=ML
   refine fy (pA.mem i _ SW) λ p1 p2 p3=>?_
   have UC:=ir p2 p3
   have WV:=vB OS (Nat.lt_of_le_of_ne (D3 (Xs.pre i _ b e2 OS)) (Ne.symm e)) (yK S Xs.bd e2)
   have X':=Xs.step S hK e2 OS SW
   have Fp:=ir X'.nd X'.lt
   rw[eQ] at Fp
   have UD:q6 U.count (B.set i (cp U B b))*(U.blocks.length+1)+(U.blocks.length+1)<=q6 U.count B*(U.blocks.length+1):=by
    rw[←Nat.succ_mul];exact Nat.mul_le_mul_right _ WV
   have Ng:=aQ (o:=.list (aB (B.set i (cp U B b)))) rG A.g0
   have Cc:=ag (p:=.list (aB (B.set i (cp U B b)))) (aa h w (.list (aB W))) A.gw.symm
   have PH:=Nf.other (o:=.list (aB (B.set i (cp U B b)))) A.Fg λ a m=>(A.lg a m).1
   have LR:=ag (p:=.list (aB (B.set i (cp U B b)))) ML WU
   refine Dx Cb (g9 i) (by simp only[ac,Se];exact jk hi) ?_
   simp only[show((i:Int)).toNat=i from rfl,tx]
   refine bC Cc ?_;refine cQ PH.f (xM Sf) ?_;refine cA LR (by rw[ac];unfold aZ;exact aS [_,_] (Pl X0 (Nm 1)) (Nm 1000000) 1 X1 (Nm 10) 1 X0 X1 rfl hn UC) ?_
   refine Bj Cc LR (by unfold aZ;exact aS [_,_,_] (Pl X0 (Nm 1)) (Nm 1000000) 1 X1 (Nm 10) 1 (Pl X0 X2) X1 rfl hn Fp) _ [] _ ?_;refine bf (by simp only[ac,List.nil_append];unfold aZ;exact aS [_,_,_] (Pl X0 (Nm 1)) (Nm 1000000) 1 X1 (Nm 10) 1 (Pl X2 X0) X1 rfl hn Fp) λ c hc=>?_
   have QO:(aC (aC h w (.list (aB W))) g (.list (aB (B.set i (cp U B b))))) g=_:=aa ..
   refine Fl (ax Cc hc) (aa ..) (aj Cc hc) (by simp only[ac,ac,List.nil_append];unfold aZ;exact aS [_,_,_] (Pl (Pl X0 X1) (Nm 1)) (Nm 1000000) 1 X2 (Nm 10) 1 (Pl X0 X1) X2 rfl hn Fp) ?_
   simp only[←bg,List.nil_append]
   exact aU _ _ _ _ _ _ ⟨X',aQ (aX Ng hc) A.w0,ag (ax QO hc) A.gw,aa ..,(PH.keep (aA hc)).other A.Fw λ a m=>(A.lg a m).2⟩ (by rw[eQ];exact fH [_,_,_,_,_,_] (Pl (Pl X0 (Pl X1 X2)) (Nm 1)) X3 1 (Pl (Pl X4 (Pl X1 (Nm 1))) (Nm 1)) (Pl X3 (Nm 1)) 1 (Pl X1 X2) X5 1 (Pl X0 (Pl X5 (Nm 1))) X4 rfl k Fp UD)
  ·have e:cp U B b=B[i]:=Decidable.byContradiction λ z=>by
    have e':(!decide (((cp U B b:Nat):Int)=((B[i]:Nat):Int)))=false:=e
    rw[eY λ q=>z (mC q)] at e';exact IJ e'
   exact aU _ _ _ _ _ _ ⟨Xs.Fo e2 (by rw[e];exact OS),rG,Cb,aa ..,Nf⟩ (by exact ai [_,_,_] (Pl (Pl X0 X1) (Nm 1)) X2 1 (Pl (Pl X0 (Pl X1 (Nm 1))) (Nm 1)) (Pl X2 (Nm 1)) rfl k)
theorem un{Q:V->H->Prop}(S:Sane U)(hu:bF h x U)
  (hK:∀(i:Nat) (b:Block),U.blocks[i]?=some b->sub (cp U Kn b) ((Kn[i]?).getD 0))
  (q:∀(B:List Nat) g,B.length=U.blocks.length->(∀(i:Nat) (b:Block),U.blocks[i]?=some b->B[i]?=some (cp U B b))->Af B Kn->(∀m∈B,m<2^U.count)->h g=none->Q (.ref g) (aC h g (.list (aB B)))):
  ah prog (n+5) .qx [.ref x.u] Q h:=by
 have hn:=S.len
 have DN:=hu.len
 have Sg:(x.bl.map λ y=>V.ref y.b).length<aZ:=be (by exact aS [_,_] X0 (Nm 10) 1 X1 (Nm 10) 1 X0 X1 rfl hn (bw DN))
 refine bJ rfl ?_;refine bf (sm rfl) λ t ht=>?_
 have Vz:=hu.le (aA (o:=.list [V.int 0]) ht)
 refine ay Vz.u rfl ?_;refine qi Vz.bs Sg ?_;refine PA (aa ..) Sg λ g hg=>?_
 have bI:=aX (o:=.list (List.replicate (x.bl.map λ y=>V.ref y.b).length (.int 0))) (aA (o:=.list [V.int 0]) ht) hg
 have lC:=hu.le bI
 refine ay lC.u rfl ?_;refine qi lC.bs Sg ?_;refine fT Sg ?_
 simp only[dR,DN,rO,yL] at*
 refine bf (by rw[ac,List.length_range];unfold aZ;exact ai [_] (Pl X0 (Nm 1)) (Nm 1000000) 1 X0 (Nm 10) rfl hn) λ w hw=>?_
 have cq:=aX (o:=.list (aB (List.range U.blocks.length))) bI hw
 refine pT S (hu.le cq) λ F ls fv Sa VA oG L=>?_
 have WW:=(aD hw).1.symm
 have g0:=(aD hg).2
 have w0:=(aD (aD hw).2).2
 have A:Vy h g w F ls:=⟨g0,w0,WW,(aj (ax (aa ..) hw) Sa).symm,(aj (aa ..) Sa).symm,λ a m=>⟨(aj (ax (aa ..) hw) (VA a m)).symm,(aj (aa ..) (VA a m)).symm⟩⟩
 refine nY (q6 U.count (List.replicate U.blocks.length 0)*(U.blocks.length+1)+(List.range U.blocks.length).length+1) ?_
 refine zL S hu A hK (λ B h' z y v X=>?_) _ _ _ fv _ _ _ ⟨IQ.start,aF cq oG,oG _ _ (ax (aa ..) hw),oG _ _ (aa ..),L⟩ (Nat.lt_succ_self _)
 exact bD (jb X.g X.le) (q B g X.st.len (λ i b e=>X.st.eq i b List.not_mem_nil e) X.st.Sc X.st.bd g0)
noncomputable def vu(r:Nat)(M l:List Nat):List Nat:=l.foldl (λ M o=>M.set o (io ((M[o]?).getD 0) (rB r))) M
noncomputable def sN(M:List Nat)(r cE:Nat):List Nat:=vu r (M.set r (io ((M[r]?).getD 0) (rT cE (rB r)))) (jc (rT cE (rB r)))
structure Good (c:Nat) (G:Nat->Nat->Prop) (M:List Nat):Prop where
 len:M.length=c
 bd:∀m∈M,m<2^c
 SY:∀r cE,G r cE->∀s,cE.testBit s=true->s≠r->((M[r]?).getD 0).testBit s=true/\((M[s]?).getD 0).testBit r=true
theorem Good.imp{G G':Nat->Nat->Prop}(x:Good c G M)(h:∀a b,G' a b->G a b):Good c G' M:=⟨x.len,x.bd,λ r m g=>x.SY r m (h _ _ g)⟩
theorem NQ(h:r<c):rB r<2^c:=bZ.mpr λ i hi=>by
 rw[gF] at hi;obtain rfl:=gS hi;exact h
theorem o4{M:List Nat}{c i:Nat}(h:∀m∈M,m<2^c):((M[i]?).getD 0)<2^c:=by
 cases e:M[i]? with
 |none=>exact Nat.two_pow_pos c
 |some m=>exact h m (mB e)
theorem Gu{M:List Nat}(h:∀m∈M,m<2^c)(hx:x<2^c):∀m∈M.set i x,m<2^c:=λ m hm=>by
 rcases List.mem_or_eq_of_mem_set hm with hm|rfl
 ·exact h m hm
 ·exact hx
theorem C0(h:sub ((M[i]?).getD 0) x):Af M (M.set i x):=λ j=>by
 by_cases e:j=i
 ·subst e
  by_cases hl:j<M.length
  ·rw[List.getElem?_set_self hl];exact h
  ·rw[List.getElem?_eq_none (by exact ai [_,_] X0 X1 1 X0 X1 rfl (Nat.le_of_not_lt hl))];exact tn _
 ·rw[List.getElem?_set_ne (Ne.symm e)];exact lR _
theorem vC(x:Af a b)(y:Af b c):Af a c:=λ i=>qA (x i) (y i)
theorem yM:sub a (io a b):=λ i h=>by rw[bh,h];rfl
theorem vD:sub b (io a b):=λ i h=>by rw[bh,h,Bool.or_true]
theorem Bm(hr:r<c):∀(l M:List Nat),M.length=c->(∀m∈M,m<2^c)->(∀o∈l,o<c)->
  (vu r M l).length=c/\(∀m∈vu r M l,m<2^c)/\Af M (vu r M l)/\∀o∈l,(((vu r M l)[o]?).getD 0).testBit r=true:=by
 intro xR
 induction xR with
 |nil=>
  intro M a b _
  exact⟨a,b,λ u0=>lR _,λ u0 h=>nomatch h⟩
 |cons o l aU=>
  intro M a b d
  have h1:=C0 (M:=M) (i:=o) (x:=io ((M[o]?).getD 0) (rB r)) yM
  refine gM (aU (M.set o (io ((M[o]?).getD 0) (rB r))) (by simp[a]) (Gu b (lG (o4 b) (NQ hr))) λ x hx=>d x (List.mem_cons_of_mem _ hx)) λ p q s t=>?_
  refine⟨p,q,vC h1 s,λ x hx=>?_⟩
  rcases ci hx with rfl|hx
  ·refine s x r ?_
   rw[List.getElem?_set_self (by rw[a];exact d x List.mem_cons_self)]
   exact vD r (by rw[gF];simp)
  ·exact t x hx
theorem D4(a:M.length=c)(b:∀m∈M,m<2^c)(hr:r<c)(hm:cE<2^c):
  (sN M r cE).length=c/\(∀m∈sN M r cE,m<2^c)/\Af M (sN M r cE)/\
   ∀s,cE.testBit s=true->s≠r->(((sN M r cE)[r]?).getD 0).testBit s=true/\(((sN M r cE)[s]?).getD 0).testBit r=true:=by
 have hb:∀o∈jc (rT cE (rB r)),o<c:=λ o ho=>bZ.mp (tb (b:=rB r) hm) o (iw.mp ho)
 have h1:=C0 (M:=M) (i:=r) (x:=io ((M[r]?).getD 0) (rT cE (rB r))) yM
 refine gM (Bm hr (jc (rT cE (rB r))) (M.set r (io ((M[r]?).getD 0) (rT cE (rB r)))) (by simp[a]) (Gu b (lG (o4 b) (tb hm))) hb) λ p q s t=>?_
 refine⟨p,q,vC h1 s,λ x hx jN=>?_⟩
 have hw:(rT cE (rB r)).testBit x=true:=by simp only[ft,hx,gF];simp[Ne.symm jN]
 refine⟨s r x ?_,t x (iw.mpr hw)⟩
 rw[List.getElem?_set_self (by simp only[a];exact hr)]
 exact vD x hw
theorem Good.put{G:Nat->Nat->Prop}(x:Good c G M)(hr:r<c)(hm:cE<2^c):Good c (λ a b=>G a b\/(a=r/\b=cE)) (sN M r cE):=by
 refine gM (D4 x.len x.bd hr hm) λ p q s t=>?_
 refine⟨p,q,λ a b g i hi jN=>?_⟩
 rcases g with g|⟨rfl,rfl⟩
 ·refine bV (x.SY a b g i hi jN) λ u v=>?_
  exact⟨s _ _ u,s _ _ v⟩
 ·exact t i hi jN
structure jl (h:H) (ap m:Nat) (M:List Nat):Prop where
 ap:h ap=some (.inst .Apart [(.gj,.ref m)])
 m:h m=some (.list (aB M))
theorem jl.ne{ap m:Nat}(x:jl h ap m M):ap≠m:=by rintro rfl;have:=x.ap;rw[x.m] at this;cases this
theorem jl.upd{h:H}{ap m:Nat}{M M':List Nat}(x:jl h ap m M):jl (aC h m (.list (aB M'))) ap m M':=⟨ag x.ap x.ne,aa ..⟩
theorem jl.keep{ap m:Nat}(x:jl h ap m M)(l:le h h'):jl h' ap m M:=⟨l _ _ x.ap,l _ _ x.m⟩
theorem G5{ap m r f:Nat}{K:Out->Fr->H->Prop}(ha:h ap=some (.inst .Apart [(.gj,.ref m)]))(am:ap≠m)(hf:h f=some (.list l))(fm:f≠m)(hr:r<100000):
  ∀(E M:List Nat) (z:Option V),(∀o∈E,o<M.length)->(∀z,K .next [some (.ref ap),some (.int r),s2,s3,z] (aC h m (.list (aB (vu r M E)))))->
  cw [4] (wB C yG) (λ h'=>h' f=some (.list l)) (aB E) [some (.ref ap),some (.int r),s2,s3,z] K (aC h m (.list (aB M))):=by
 intro xR
 induction xR with
 |nil=>
  intro M z _ q
  exact kR (ag hf fm) (q z)
 |cons o E aU=>
  intro M z b q
  have ho:=b o (.head _)
  have ih:=aU (M.set o (io ((M[o]?).getD 0) (rB r))) (some (.int o)) (λ p k=>by rw[List.length_set];exact b p (.tail _ k)) q
  rw[←tx,←a9 h m (.list (aB M))] at ih
  refine f9 (ag hf fm) ?_;refine ay (ag ha am) rfl ?_;refine cQ (aa ..) (MK ho) ?_;refine Ja hr ?_;refine IM ?_;refine ay (ag ha am) rfl ?_
  refine Dx (aa ..) (g9 o) (by rw[ac];exact jk ho) ?_;exact ih
theorem tz{Q:V->H->Prop}(hc:c<=900)(x:jl h ap m M)(a:M.length=c)(b:∀k∈M,k<2^c)(hr:r<c)(hm:cE<2^c)
  (q:Q .none (aC h m (.list (aB (sN M r cE))))):ah prog (n+2) .put [.ref ap,.int r,.int cE] Q h:=by
 have hw:rT cE (rB r)<2^c:=tb hm
 have VB:r<100000:=kI hr (cV hc (by decide))
 have VC:r<M.length:=by rw[a];exact hr
 refine bJ rfl ?_;refine Ja VB ?_;refine kt ?_;refine ay x.ap rfl ?_;refine cQ x.m (MK VC) ?_;refine IM ?_;refine ay x.ap rfl ?_;refine Dx x.m (g9 r) (by rw[ac];exact jk VC) ?_
 refine pN (cV (lQ hw) (cV hc (by decide))) λ f hf=>?_
 have nf:=aD hf
 refine cA (aa ..) (by rw[ac];exact cO (cV nO (cV (lQ hw) hc)) (by decide)) ?_
 rw[c6 nf.1.symm,show((r:Int)).toNat=r from rfl,tx]
 refine G5 (ax x.ap nf.2) x.ne (aa ..) nf.1 VB _ _ none (λ o k=>by simp only[List.length_set,a];exact bZ.mp hw o (iw.mp k)) λ z=>?_
 exact dL (eS (aA nf.2)) q
theorem D5{fr:Fr}{sO:Nat->Nat->Prop}{K:Out->Fr->H->Prop}(ha:h ap=some (.inst .Apart [(.gj,.ref m)]))(am:ap≠m)(hl:h a=some (.list l))(hm:a≠m)(hk:cE<2^c)
  (hb:∀(r:Nat) (M:List Nat) (g:H) (G:Out->Fr->H->Prop),r<c->jl g ap m M->M.length=c->(∀k∈M,k<2^c)->G .next (fr.set bp (some (.int r))) (aC g m (.list (aB (sN M r cE))))->wB C B (fr.set bp (some (.int r))) G g):
  ∀(E D M:List Nat) (z:Option V),Good c (λ r k=>sO r k\/(r∈D/\k=cE)) M->(∀r∈E,r<c)->(∀M z,Good c (λ r k=>sO r k\/(r∈D++E/\k=cE)) M->K .next (fr.set bp z) (aC h m (.list (aB M))))->
  cw [bp] (wB C B) (λ h'=>h' a=some (.list l)) (aB E) (fr.set bp z) K (aC h m (.list (aB M))):=by
 intro xR
 induction xR with
 |nil=>
  intro D M z g _ q
  exact kR (ag hl hm) (q M z (by rw[eE];exact g))
 |cons r E aU=>
  intro D M z g b q
  have hr:=b r (.head _)
  have x:jl (aC h m (.list (aB M))) ap m M:=⟨ag ha am,aa ..⟩
  refine f9 (ag hl hm) ?_
  show wB C B ((fr.set bp z).set bp (some (.int r))) _ _
  simp only[List.set_set]
  refine hb r M _ _ hr x g.len g.bd ?_
  simp only[a9]
  exact aU (D++[r]) _ _ ((g.put hr hk).imp λ a b h=>by
   rcases h with h|⟨h,rfl⟩
   ·exact .inl (.inl h)
   ·rcases gP h with h|h
    ·exact .inl (.inr ⟨h,rfl⟩)
    ·exact .inr ⟨cP h,rfl⟩) (λ p k=>b p (.tail _ k)) λ M z g=>q M z (by rw[d6] at g;exact g)
set_option tactic.hygienic true in
theorem tA (e : h a = some o) : aC h a o = h := by
  funext b; unfold aC; split
  · rename_i q; rw [q]; exact e.symm
  · rfl
theorem qC{fr:Fr}{sO:Nat->Nat->Prop}{K:Out->Fr->H->Prop}(x:jl h ap m M)(hl:h a=some (.list l))(hm:a≠m)(hk:cE<2^c)(g:Good c sO M)
  (hb:∀(r:Nat) (M:List Nat) (g:H) (G:Out->Fr->H->Prop),r<c->jl g ap m M->M.length=c->(∀k∈M,k<2^c)->G .next (fr.set bp (some (.int r))) (aC g m (.list (aB (sN M r cE))))->wB C B (fr.set bp (some (.int r))) G g)
  (E:List Nat)(z:Option V)(b:∀r∈E,r<c)(q:∀M z,Good c (λ r k=>sO r k\/(r∈E/\k=cE)) M->K .next (fr.set bp z) (aC h m (.list (aB M)))):
  cw [bp] (wB C B) (λ h'=>h' a=some (.list l)) (aB E) (fr.set bp z) K h:=by
 have:=D5 (K:=K) x.ap x.ne hl hm hk hb E [] M z (g.imp λ a b h=>h.elim id λ h=>nomatch h.1) b q
 simp only[tA x.m] at this
 exact this
noncomputable def eK(o:Op)(iM:Nat):Nat:=io (io iM (b8 o.writes)) (if o.yq then b8 o.reads else 0)
noncomputable def AL(o:Op)(iM r cE:Nat):Prop:=r∈o.writes/\cE=eK o iM
theorem G6:io a 0=a:=by unfold io;exact Nat.or_zero a
theorem D6(x:a<2^c)(y:∀r∈o.e9,r<c):eK o a<2^c:=by
 unfold eK
 refine lG (lG x (hH λ r hr=>y r (mA _ hr))) ?_
 split
 ·exact hH λ r hr=>y r (kU _ hr)
 ·exact Nat.two_pow_pos c
theorem Op.head(o:Op):∃w l,o.v=.tup (.str w::l)/\decide (w=.fix)=o.yq:=by cases o<;>exact⟨_,_,rfl,rfl⟩
theorem Op.small(o:Op):o.reads.length<aZ/\o.writes.length<aZ:=by cases o<;>exact⟨sm rfl,sm rfl⟩
theorem zM{G:Nat->Nat->Prop}{Q:V->H->Prop}(hc:c<=900)(x:jl h ap m M)(g:Good c G M)(ho:o.ok)(hr:∀r∈o.e9,r<c)(ha:iM<2^c)
  (q:∀M',Good c (λ r k=>G r k\/AL o iM r k) M'->Q .none (aC h m (.list (aB M')))):ah prog (n+4) .AI [.ref ap,o.v,.int iM] Q h:=by
 have VD:=D6 ha hr
 have OT:∀r∈o.e9,r<100000:=λ r k=>kI (hr r k) (cV hc (by decide))
 refine fh o.head λ wd l e VE=>?_
 refine bJ rfl ?_;refine dN λ w hw=>?_;refine dc (aa ..) o.small.2 (λ r h=>OT r (mA _ h)) ?_;refine IM ?_;refine An e rfl ?_
 have rU:∀(k:Nat) (bB:H),k=eK o iM->le (aC h w (.list (aB o.writes))) bB->
   cw [5] (wB (ah prog (n+3)) rM) (λ h'=>h' w=some (.list (aB o.writes))) (aB o.writes) [some (.ref ap),some o.v,some (.int iM),some (.ref w),some (.int k),none] (λ oo u0 h'=>oO oo (eO .next Q h') λ v=>eO (.ret v) Q h') bB:=by
  rintro k bB rfl bI
  have jI:=aF (aA (o:=.list (aB o.writes)) hw) bI
  have UE:=x.keep jI
  refine qC (fr:=[some (.ref ap),some o.v,some (.int iM),some (.ref w),some (.int (eK o iM:Nat)),none]) UE (bI _ _ (aa ..)) (aj x.m hw).symm VD g (λ r M g G hr x a b q=>?_) o.writes none (λ r k=>hr r (mA _ k)) λ M' z g'=>?_
  ·refine cU x.ap rfl rfl ?_;refine tz hc x a b hr VD ?_;exact q
  ·exact dL (eS jI) (q M' g')
 refine oX (λ b=>?_) (λ b=>?_)
 ·have b:o.yq=true:=VE.symm.trans b
  refine gU ho λ y hy=>?_;refine dc (aa ..) o.small.1 (λ r h=>OT r (kU _ h)) ?_;refine IM ?_;refine cA (ax (aa ..) hy) (by rw[ac];exact o.small.2) ?_
  exact rU _ _ (by unfold eK;rw[b];rfl) (aA hy)
 ·have b:o.yq=false:=VE.symm.trans b
  refine cA (aa ..) (by rw[ac];exact o.small.2) ?_
  exact rU _ _ (by unfold eK;rw[b];exact G6.symm) (av _)
noncomputable def C1(U:Un)(B:List Nat)(i:Nat)(b:Block)(r cE:Nat):Prop:=
 (r∈b.params/\cE=io (b8 b.params) ((B[i]?).getD 0))\/∃p∈b.ops.zip (jO b.ops (b7 U B b.end_)),AL p.1 p.2 r cE
noncomputable def AM(U:Un)(B:List Nat)(r cE:Nat):Prop:=
 (r∈U.entry/\cE=io (b8 U.entry) ((B[0]?).getD 0))\/∃(i:Nat) (b:Block),U.blocks[i]?=some b/\C1 U B i b r cE
theorem D7:∀{os:List Op} {e:Nat},e<2^k->(∀o∈os,∀r∈o.e9,r<k)->∀a∈jO os e,a<2^k:=by
 intro xR
 induction xR with
 |nil=>
  intro _ _ _ _ h
  exact nomatch h
 |cons o os aU=>
  intro e x y a h
  rcases ci h with rfl|h
  ·exact tL x λ p hp=>y p (List.mem_cons_of_mem _ hp)
  ·exact aU x (λ p hp=>y p (List.mem_cons_of_mem _ hp)) a h
theorem r5{Q:V->H->Prop}(hx:h x=some (.inst .Apart []))(hc:c<=900)
  (q:∀m,h m=none->Q .none (aC (aC h m (.list (aB (List.replicate c 0)))) x (.inst .Apart [(.gj,.ref m)]))):ah prog (n+1) .n8 [.ref x,.int c] Q h:=by
 refine bJ rfl ?_;refine bf (sm rfl) λ t ht=>?_;refine PA (aa ..) (cO hc (by decide)) λ m hm=>?_
 simp only[yL]
 refine cm (ax (ax hx ht) hm) rfl (by decide) ?_
 exact dL (eS (eS (aA ht))) (q m (aD hm).2)
theorem yN{K:Out->Fr->H->Prop}(hc:c<=900)(ha:h ap=some (.inst .Apart [(.gj,.ref m)]))(am:ap≠m)(ho:h yo=some (.list lo))(om:yo≠m)(hl:h a=some (.list la))(lm:a≠m):
  ∀(os:List Op) (as M:List Nat) (sO:Nat->Nat->Prop) (z z':Option V),Good c sO M->(∀o∈os,o.ok/\∀r∈o.e9,r<c)->(∀a∈as,a<2^c)->
  (∀M z z',Good c (λ r k=>sO r k\/∃p∈os.zip as,AL p.1 p.2 r k) M->K .next [some (.ref u),some (.ref g),some (.ref ap),s3,s4,s5,s6,z,z'] (aC h m (.list (aB M))))->
  cw [7,8] (wB (ah prog (n+4)) nE) (λ h'=>h' yo=some (.list lo)/\h' a=some (.list la)) (iQ (os.map Op.v) (aB as)) [some (.ref u),some (.ref g),some (.ref ap),s3,s4,s5,s6,z,z'] K (aC h m (.list (aB M)))
 |[],as,M,sO,z,z',gd,_,_,q=>DM ⟨ag ho om,ag hl lm⟩ (q M z z' (gd.imp λ a b h=>h.elim id λ hP=>by refine aG hP λ u0 h u0=>?_;exact nomatch h))
 |o::os,[],M,sO,z,z',gd,_,_,q=>DM ⟨ag ho om,ag hl lm⟩ (q M z z' (gd.imp λ a b h=>h.elim id λ hP=>by refine aG hP λ u0 h u0=>?_;exact nomatch h))
 |o::os,e::as,M,sO,z,z',gd,b,d,q=>by
  have hb:=b o (.head _)
  refine IU ⟨ag ho om,ag hl lm⟩ ?_;refine zM hc ⟨ag ha am,aa ..⟩ gd hb.1 hb.2 (d e (.head _)) λ M' g'=>?_
  have ih:=yN (n:=n) (u:=u) (g:=g) (s3:=s3) (s4:=s4) (s5:=s5) (s6:=s6) (K:=K) hc ha am ho om hl lm os as M' _ (some o.v) (some (.int e)) g' (λ o m=>b o (.tail _ m)) (λ a m=>d a (.tail _ m)) λ M z z' WX=>q M z z' (WX.imp λ r k h=>by
   rcases h with h|⟨p,hp,h⟩
   ·exact .inl (.inl h)
   ·rcases ci hp with rfl|hp
    ·exact .inl (.inr h)
    ·exact .inr ⟨p,hp,h⟩)
  rw[←a9 h m (.list (aB M))] at ih
  exact ih
theorem u8{Q:V->H->Prop}(S:Sane U)(hu:bF h x U)(h0:0<U.blocks.length)
  (hK:∀(i:Nat) (b:Block),U.blocks[i]?=some b->sub (cp U Kn b) ((Kn[i]?).getD 0))
  (q:∀(B:List Nat) ap m M h',B.length=U.blocks.length->(∀(i:Nat) (b:Block),U.blocks[i]?=some b->B[i]?=some (cp U B b))->Af B Kn->le h h'->jl h' ap m M->Good U.count (AM U B) M->Q (.ref ap) h'):
  ah prog (n+6) .tq [.ref x.u] Q h:=by
 have cT:=S.len
 have DN:=hu.len
 have hc:=S.cnt
 have OT:∀{r:Nat},r<U.count->r<100000:=λ h=>kI h (cV hc (by decide))
 refine bJ rfl ?_;refine un S hu hK λ B g hB S0 S5 S7 hg=>?_
 have bI:=aA (o:=.list (aB B)) hg
 have lC:=hu.le bI
 refine ay lC.u rfl ?_;refine cR λ ap VF=>?_;refine r5 (aa ..) hc λ m hm=>?_
 have WY:=aD VF
 have nm:=aD hm
 have OU:=aD nm.2
 rw[c6 nm.1,a9]
 have cq:=aX (o:=.list (aB (List.replicate U.count 0))) (aX (o:=.inst .Apart [(.gj,.ref m)]) bI VF) (show aC (aC h g (.list (aB B))) ap (.inst .Apart [(.gj,.ref m)]) m=none from(bu nm.1).trans nm.2)
 have PJ:jl (aC (aC (aC h g (.list (aB B))) ap (.inst .Apart [(.gj,.ref m)])) m (.list (aB (List.replicate U.count 0)))) ap m (List.replicate U.count 0):=⟨ag (aa ..) nm.1.symm,aa ..⟩
 have LV:=ag (p:=.list (aB (List.replicate U.count 0))) (ag (p:=.inst .Apart [(.gj,.ref m)]) (aa h g (.list (aB B))) WY.1.symm) OU.1.symm
 generalize aC (aC (aC h g (.list (aB B))) ap (.inst .Apart [(.gj,.ref m)])) m (.list (aB (List.replicate U.count 0)))=cN at*
 have dM:=hu.le cq
 have VG:io (b8 U.entry) ((B[0]?).getD 0)<2^U.count:=lG (hH S.entry) (o4 S7)
 have UF:Good U.count (λ u0 u0=>False) (List.replicate U.count 0):=⟨List.length_replicate,λ k h=>by rw[(List.mem_replicate.mp h).2];exact Nat.two_pow_pos _,λ u0 u0 h=>h.elim⟩
 have WZ:(aB U.entry).length<aZ:=by rw[ac];exact cO S.kZ (by decide)
 have MM:=OU.2
 have YO:=hu.e
 refine ay dM.u rfl ?_;refine dc (L:=U.entry) dM.e (cO S.kZ (by decide)) (λ r hr=>OT (S.entry r hr)) ?_;refine cQ LV (MK (by rw[hB];exact h0)) ?_;refine IM ?_;refine ay dM.u rfl ?_;refine cA dM.e WZ ?_
 refine qC (fr:=[some (.ref x.u),some (.ref g),some (.ref ap),some (.int (io (b8 U.entry) ((B[0]?).getD 0):Nat)),none,none,none,none,none]) PJ dM.e (aj hu.e MM) VG UF (λ r M g G hr x a b q=>?_) U.entry none S.entry λ M z dU=>?_
 ·refine cU x.ap rfl rfl ?_;refine tz hc x a b hr VG ?_;exact q
 have oQ:=hu.le (aQ (o:=.list (aB M)) cq MM)
 refine ay oQ.u rfl ?_;refine cA oQ.bs (be (by exact aS [_,_] X0 (Nm 10) 1 X1 (Nm 10) 1 X0 X1 rfl cT (bw DN))) ?_
 refine pq hu (λ k fr h'=>le h h'/\∃M z3 z4 z5 z6 z7 z8,jl h' ap m M/\h' g=some (.list (aB B))/\
  Good U.count (λ r q=>(r∈U.entry/\q=io (b8 U.entry) ((B[0]?).getD 0))\/∃(i:Nat) (b:Block),i<k/\U.blocks[i]?=some b/\C1 U B i b r q) M/\fr=[some (.ref x.u),some (.ref g),some (.ref ap),z3,z4,z5,z6,z7,z8]) (λ u0 u0 u0 i=>i.1) ?_ ?_
  ⟨aQ cq MM,M,_,z,_,_,_,_,PJ.upd,ag LV OU.1.symm,dU.imp λ a b h=>h.elim .inr (λ hP=>by refine fh hP λ i c h u0=>?_;exact absurd h (Nat.not_lt_zero _)),rfl⟩
 ·rintro k y b fr h' G e1 e2 tW Kb ⟨hl,M,z3,z4,z5,z6,z7,z8,Ao,Cd,Jd,rfl⟩ kn
  have s:=S.gY k b e2
  have hk:=(fQ e2).1
  have VH:io (b8 b.params) ((B[k]?).getD 0)<2^U.count:=lG (hH s.params) (o4 S7)
  have q7:=hu.gY k y b e1 e2
  refine ay Kb.b rfl ?_;refine dc Kb.p (cO s.Fm (by decide)) (λ r hr=>OT (s.params r hr)) ?_;refine ay Kb.b rfl ?_;refine cQ Cd (MK (by simp only[hB];exact hk)) ?_;refine IM ?_
  refine ay Kb.b rfl ?_;refine cA Kb.p (be s.Fm) ?_
  refine qC (fr:=[some (.ref x.u),some (.ref g),some (.ref ap),z3,z4,some (.ref y.b),some (.int (io (b8 b.params) ((B[k]?).getD 0):Nat)),z7,z8]) Ao Kb.p (aj q7.p MM) VH Jd (λ r M g G hr x a b q=>?_) b.params z4 s.params λ M z4 UG=>?_
  ·refine cU x.ap rfl rfl ?_;refine tz hc x a b hr VH ?_;exact q
  have qj:=aQ (o:=.list (aB M)) hl MM
  have FT:=hu.le qj
  have LW:=q7.le qj
  have QP:=ag (p:=.list (aB M)) Cd OU.1.symm
  refine ay LW.b rfl ?_;refine qU S FT e1 e2 QP hB λ a ha=>?_
  refine LQ (ax LW.o ha) (aa ..) (be s.oF) (by rw[ac,u4];exact cO s.oF (by decide)) ?_
  have na:=aD ha
  simp only[c6 na.1.symm]
  refine yN hc (ax Ao.ap na.2) Ao.ne (ax (hl _ _ q7.o) na.2) (aj q7.o MM) (aa ..) na.1 b.ops _ M _ z7 z8 UG s.ops (D7 (tM (U:=U) s.ends S7) λ o ho=>(s.ops o ho).2) λ M z7 z8 UH=>?_
  refine kn _ _ ⟨aQ (aX hl na.2) MM,M,_,_,_,_,_,_,⟨ag (ax Ao.ap na.2) Ao.ne,aa ..⟩,ag (ax Cd na.2) OU.1.symm,UH.imp λ r t h=>?_,rfl⟩
  rcases h with h|⟨i,b',hi,fO,h⟩
  ·exact .inl (.inl (.inl h))
  ·by_cases ei:i=k
   ·subst ei
    rw[e2] at fO;obtain rfl:=c8 fO
    exact h.elim (λ h=> .inl (.inr h)) .inr
   ·exact .inl (.inl (.inr ⟨i,b',Nat.lt_of_le_of_ne (Nat.le_of_lt_succ hi) ei,fO,h⟩))
 ·rintro fr h' ⟨hl,M,z3,z4,z5,z6,z7,z8,Ao,Cd,Jd,rfl⟩
  exact bD (av _) (q B ap m M h' hB S0 S5 hl Ao (Jd.imp λ r t h=>h.imp id λ hP=>by refine fh hP λ i b hb h=>?_;exact⟨i,b,(fQ hb).1,hb,h⟩))
set_option tactic.hygienic true in
theorem Bn {K : Type} [DecidableEq K] (es : List (K × V)) (k x : K) (v : V) : aE (dT es k v) x = if x = k then some v else aE es x := by
  unfold dT
  split
  · rename_i h
    have rU : ∀ es : List (K × V), (es.any λ kv => decide (kv.1 = k)) = true -> aE (es.map λ kv => if kv.1 = k then (kv.1, v) else kv) x = if x = k then some v else aE es x := by
      intro es
      induction es with
      | nil => intro h; simp at h
      | cons p es ih =>
        intro h
        have e0 : aE (p :: es) x = if p.1 = x then some p.2 else aE es x := by unfold aE; rw [List.find?_cons]; by_cases e : p.1 = x <;> simp [e]
        have e1 : ∀ q : K × V, ∀ tX, aE (q :: tX) x = if q.1 = x then some q.2 else aE tX x := λ q tX => by unfold aE; rw [List.find?_cons]; by_cases e : q.1 = x <;> simp [e]
        rw [List.map_cons, e1, e1]
        by_cases hp : p.1 = k
        · by_cases hx : x = k
          · subst hx; simp [hp]
          · have : ¬ p.1 = x := by rw [hp]; exact λ q => hx q.symm
            simp [hp, Ne.symm hx, hx]
            by_cases ha : (es.any λ kv => decide (kv.1 = k)) = true
            · rw [ih ha, if_neg hx]
            · have hn : ∀ kv ∈ es, kv.1 ≠ k := λ kv MN q => ha (List.any_eq_true.mpr ⟨kv, MN, by simpa using q⟩)
              congr 1
              conv => rhs; rw [← List.map_id es]
              exact List.map_congr_left λ kv MN => by simp [hn kv MN]
        · have ha : (es.any λ kv => decide (kv.1 = k)) = true := by simpa [hp] using h
          simp only [hp, if_false]
          rw [ih ha]
          by_cases hx : x = k
          · subst hx; simp [hp]
          · simp [hx]
    exact rU es h
  · rename_i h
    have hn : ∀ kv ∈ es, kv.1 ≠ k := λ kv MN q => h (List.any_eq_true.mpr ⟨kv, MN, by simpa using q⟩)
    unfold aE
    simp only [List.find?_append]
    by_cases hx : x = k
    · subst hx
      rw [List.find?_eq_none.mpr (by simpa using hn)]
      simp
    · cases e : es.find? (λ kv => decide (kv.1 = x)) with
      | some p => simp [hx]
      | none => simp [hx, Ne.symm hx]
theorem D8{K:Type}[DecidableEq K](es:List (K×V))(k:K)(v:V):(dT es k v).map (·.1)=if k∈es.map (·.1) then es.map (·.1) else es.map (·.1)++[k]:=by
 unfold dT
 by_cases h:k∈es.map (·.1)
 ·refine aG (iE h) λ p hp ak=>?_;obtain rfl:=ak
  rw[if_pos (List.any_eq_true.mpr ⟨p,hp,by simp⟩),if_pos h,List.map_map]
  apply List.map_congr_left
  intro q _
  simp only[Function.comp];split<;>rfl
 ·rw[if_neg,if_neg h,iD];rfl
  intro q
  refine aG (List.any_eq_true.mp q) λ p hp e=>?_
  exact h (List.mem_map.mpr ⟨p,hp,by simpa using e⟩)
theorem g7{K:Type}[DecidableEq K]{es:List (K×V)}{k:K}:(aE es k).isSome=true↔k∈es.map (·.1):=by
 unfold aE
 rw[Option.isSome_map,List.find?_isSome,List.mem_map]
 simp only[decide_eq_true_eq]
structure Dk (c:Nat) (R:Nat->Prop) (es:List (Int×V)):Prop where
 nd:(es.map (·.1)).Nodup
 lt:∀k:Int,k∈es.map (·.1)->∃r:Nat,k=(r:Int)/\r<c
 all:∀r:Nat,R r->(r:Int)∈es.map (·.1)
theorem Dk.len{R:Nat->Prop}(x:Dk c R es):es.length<=c:=by
 have h1:((es.map (·.1)).map Int.toNat).Nodup:=by
  rw[List.nodup_iff_pairwise_ne,List.pairwise_map]
  refine List.Pairwise.imp_of_mem ?_ (List.nodup_iff_pairwise_ne.mp x.nd)
  intro a b ha hb jN e
  refine aG (x.lt a ha) λ r ak u0=>?_;obtain rfl:=ak
  refine aG (x.lt b hb) λ s ak u0=>?_;obtain rfl:=ak
  simp at e;exact jN (by rw[e])
 have:=ir (n:=c) h1 λ i hi=>by
  refine aG (iE hi) λ k hk ak=>?_;obtain rfl:=ak
  refine aG (x.lt k hk) λ r ak hr=>?_;obtain rfl:=ak
  exact hr
 simpa using this
set_option tactic.hygienic true in
theorem Dk.put {R : Nat -> Prop} (x : Dk c R es) (hr : r < c) (v : V) : Dk c (λ s => R s \/ s = r) (dT es (r : Int) v) := by
  have hk := D8 es (r : Int) v
  refine ⟨?_, λ k h => ?_, λ s h => ?_⟩
  · simp only [hk]; split
    · exact x.nd
    · rename_i h
      rw [List.nodup_append]
      exact ⟨x.nd, by simp, λ a ha b hb => by obtain rfl := cP hb; rintro rfl; exact h ha⟩
  · rw [hk] at h; split at h
    · exact x.lt k h
    · rcases gP h with h | h
      · exact x.lt k h
      · exact ⟨r, cP h, hr⟩
  · rw [hk]; split
    · rename_i hm
      rcases h with h | rfl
      · exact x.all s h
      · exact hm
    · rcases h with h | rfl
      · exact kU _ (x.all s h)
      · simp
theorem Dk.imp{R R':Nat->Prop}(x:Dk c R es)(h:∀r,R' r->R r):Dk c R' es:=⟨x.nd,x.lt,λ r q=>x.all r (h r q)⟩
theorem Dk.nil:Dk c (λ u0=>False) []:=⟨List.nodup_nil,(λ u0 h=>nomatch h),λ u0 h=>h.elim⟩
noncomputable def cC(U:Un)(r:Nat):Prop:=r∈U.entry\/∃(i:Nat) (b:Block),U.blocks[i]?=some b/\(r∈b.params\/∃o∈b.ops,r∈o.writes)
theorem Bo{K:Out->Fr->H->Prop}(hc:c<=900)(ha:h a=some (.list l))(af:a≠f):∀(E:List Nat) (es:List (Int×V)) (R:Nat->Prop) (z:Option V),Dk c R es->(∀r∈E,r<c)->
  (∀es z,Dk c (λ r=>R r\/r∈E) es->K .next [s0,some (.ref f),z,s3,s4] (aC h f (.ao es)))->
  cw [2] (wB C f8) (λ h'=>h' a=some (.list l)) (aB E) [s0,some (.ref f),z,s3,s4] K (aC h f (.ao es)):=by
 intro xR
 induction xR with
 |nil=>
  intro es R z d _ q
  exact kR (ag ha af) (q es z (d.imp λ r h=>h.elim id λ h=>nomatch h))
 |cons r E aU=>
  intro es R z d b q
  have ih:=aU _ _ (some (.int r)) (d.put (b r (.head _)) (.bool true)) (λ p m=>b p (.tail _ m)) λ es z d=>q es z (d.imp λ s h=>by
   rcases h with h|h
   ·exact .inl (.inl h)
   ·rcases ci h with rfl|h
    ·exact .inl (.inr rfl)
    ·exact .inr h)
  rw[←a9 h f (.ao es)] at ih
  refine f9 (ag ha af) ?_;refine xT (aa ..) (cO (cV d.len hc) (by decide)) ?_;exact ih
theorem oh{K:Out->Fr->H->Prop}{R:Nat->Prop}(hc:c<=900)(ha:h a=some (.list l))(hf:h f=some (.ao es))(d:Dk c R es)(E:List Nat)(b:∀r∈E,r<c)
  (q:∀es z,Dk c (λ r=>R r\/r∈E) es->K .next [s0,some (.ref f),z,s3,s4] (aC h f (.ao es))):
  cw [2] (wB C f8) (λ h'=>h' a=some (.list l)) (aB E) [s0,some (.ref f),z,s3,s4] K h:=by
 have:=Bo (C:=C) (s0:=s0) (s3:=s3) (s4:=s4) (K:=K) hc ha (λ e=>by simp only[e,hf] at ha;cases ha) E es R z d b q
 simp only[tA hf] at this
 exact this
theorem D9{K:Out->Fr->H->Prop}(hc:c<=900)(ho:h₀ yo=some (.list lo))(f0:h₀ f=none):∀(os:List Op) (es:List (Int×V)) (R:Nat->Prop) (z u:Option V) (h:H),le h₀ h->h f=some (.ao es)->Dk c R es->(∀o∈os,∀r∈o.e9,r<c)->
  (∀es z u h,le h₀ h->h f=some (.ao es)->Dk c (λ r=>R r\/∃o∈os,r∈o.writes) es->K .next [s0,some (.ref f),z,s3,u] h)->
  cw [4] (wB (ah prog (n+2)) jC) (λ h'=>h' yo=some (.list lo)) (os.map Op.v) [s0,some (.ref f),z,s3,u] K h:=by
 intro xR
 induction xR with
 |nil=>
  intro es R z u h hl hf d _ q
  exact kR (hl _ _ ho) (q es z u h hl hf (d.imp λ r h=>h.elim id λ hP=>by refine aG hP λ u0 h u0=>?_;exact nomatch h))
 |cons o os aU=>
  intro es R z u h hl hf d b q
  refine f9 (hl _ _ ho) ?_;refine dN λ w hw=>?_;refine cA (aa ..) (by rw[ac];exact o.small.2) ?_
  refine oh hc (aa ..) (ax hf hw) d o.writes (λ r m=>b o (.head _) r (mA _ m)) λ es z d=>?_
  exact aU es _ z _ _ (aQ (aX hl hw) f0) (aa ..) d (λ o m=>b o (.tail _ m)) λ es z u h a e d=>q es z u h a e (d.imp λ r h=>by
   rcases h with h|⟨p,hp,h⟩
   ·exact .inl (.inl h)
   ·rcases ci hp with rfl|hp
    ·exact .inl (.inr h)
    ·exact .inr ⟨p,hp,h⟩)
theorem Ea{R:Nat->Prop}(d:Dk c R es):(es.map λ p=>V.int p.1)=aB ((es.map (·.1)).map Int.toNat):=by
 unfold aB
 simp only[List.map_map,List.map_map]
 apply List.map_congr_left
 intro p hp
 refine aG (d.lt p.1 (List.mem_map.mpr ⟨p,hp,rfl⟩)) λ r hr u0=>?_
 show V.int p.1=V.int (((p.1).toNat:Nat):Int)
 rw[hr];rfl
theorem Dk.nodup{R:Nat->Prop}(d:Dk c R es):((es.map (·.1)).map Int.toNat).Nodup:=by
 rw[List.nodup_iff_pairwise_ne,List.pairwise_map]
 refine List.Pairwise.imp_of_mem ?_ (List.nodup_iff_pairwise_ne.mp d.nd)
 intro a b ha hb jN e
 refine aG (d.lt a ha) λ r ak u0=>?_;obtain rfl:=ak
 refine aG (d.lt b hb) λ s ak u0=>?_;obtain rfl:=ak
 exact jN (congrArg Int.ofNat e)
theorem qV{Q:V->H->Prop}(S:Sane U)(hu:bF h x U)
  (q:∀(G:List Nat) g,G.Nodup->(∀r∈G,r<U.count)->(∀r,cC U r->r∈G)->h g=none->Q (.ref g) (aC h g (.list (aB G)))):ah prog (n+3) .l4 [.ref x.u] Q h:=by
 have cT:=S.len
 have DN:=hu.len
 have hc:=S.cnt
 refine bJ rfl ?_;refine cR λ f hf=>?_
 have bI:=aA (o:=.ao []) hf
 have lC:=hu.le bI
 refine ay lC.u rfl ?_;refine cA lC.e (be S.kZ) ?_
 refine oh hc lC.e (aa ..) Dk.nil U.entry S.entry λ es z d=>?_
 have cq:=aQ (o:=.ao es) bI hf
 have dM:=hu.le cq
 refine ay dM.u rfl ?_;refine cA dM.bs (be (by exact aS [_,_] X0 (Nm 10) 1 X1 (Nm 10) 1 X0 X1 rfl cT (bw DN))) ?_
 refine pq hu (λ k fr h'=>le h h'/\∃es z w u,h' f=some (.ao es)/\
  Dk U.count (λ r=>r∈U.entry\/∃(i:Nat) (b:Block),i<k/\U.blocks[i]?=some b/\(r∈b.params\/∃o∈b.ops,r∈o.writes)) es/\fr=[some (.ref x.u),some (.ref f),z,w,u]) (λ u0 u0 u0 i=>i.1) ?_ ?_
  ⟨cq,es,z,none,none,aa ..,d.imp λ r h=>h.elim .inr λ hP=>by refine fh hP λ u0 u0 h u0=>?_;exact absurd h (Nat.not_lt_zero _),rfl⟩
 ·rintro k y b fr h' G e1 e2 tW Kb ⟨hl,es,z,w,u,S8,d,rfl⟩ kn
  have s:=S.gY k b e2
  have q7:=hu.gY k y b e1 e2
  refine ay Kb.b rfl ?_;refine cA Kb.p (be s.Fm) ?_
  refine oh hc Kb.p S8 d b.params s.params λ es z d=>?_
  have oG:=aQ (o:=.ao es) hl hf
  refine ay (q7.le oG).b rfl ?_;refine cA (q7.le oG).o (be s.oF) ?_
  refine D9 hc q7.o hf b.ops es _ z u _ oG (aa ..) d (λ o m=>(s.ops o m).2) λ es z u h a e d=>?_
  refine kn _ _ ⟨a,es,z,_,u,e,d.imp λ r h=>?_,rfl⟩
  rcases h with h|⟨i,b',hi,fO,h⟩
  ·exact .inl (.inl (.inl h))
  ·by_cases ei:i=k
   ·subst ei
    simp only[e2] at fO;obtain rfl:=c8 fO
    exact h.elim (λ h=> .inl (.inr h)) .inr
   ·exact .inl (.inl (.inr ⟨i,b',Nat.lt_of_le_of_ne (Nat.le_of_lt_succ hi) ei,fO,h⟩))
 ·rintro fr h' ⟨hl,es,z,w,u,S8,d,rfl⟩
  refine FO S8 (by rw[dR];exact cO (cV d.len hc) (by decide)) λ g hg=>?_
  simp only[Ea d]
  refine bD (eS hl) (q _ g d.nodup (λ r hr=>?_) (λ r hr=>?_) (bn hl hg))
  ·refine aG (iE hr) λ k hk ak=>?_;obtain rfl:=ak
   refine aG (d.lt k hk) λ s ak hs=>?_;obtain rfl:=ak
   exact hs
  ·exact List.mem_map.mpr ⟨(r:Int),d.all r (hr.imp id λ hP=>by refine fh hP λ i b hb hr=>?_;exact⟨i,b,(fQ hb).1,hb,hr⟩),rfl⟩
theorem vE{x:UA}{K:Out->Fr->H->Prop}(hp:h₀ p=some (.list lp))(OB:∀a∈ls,h₀ a=none):∀(l ps:List Nat) (P:List (List Nat)) (h:H) (s:Nat) (w u:Option V),
  LL h F ls P->P.length=c->le h₀ h->(∀a∈l,a<c)->(∀a∈ps,a<c)->(∀l∈P,l.length<=s)->s+2*l.length<=1000->
  (∀P h w u,LL h F ls P->P.length=c->le h₀ h->(∀m∈P,m.length<=s+2*l.length)->K .next [some (.ref x.u),some (.ref F),some (.ref yb),w,u,none] h)->
  cw [3,4] (wB C mn) (λ h'=>True/\h' p=some (.list lp)) (iQ (aB l) (aB ps)) [some (.ref x.u),some (.ref F),some (.ref yb),w,u,none] K h
 |[],ps,P,h,s,w,u,L,hP,hl,_,_,z,_,q=>DM ⟨trivial,hl _ _ hp⟩ (q P h w u L hP hl z)
 |a::l,[],P,h,s,w,u,L,hP,hl,_,_,z,_,q=>DM ⟨trivial,hl _ _ hp⟩ (q P h w u L hP hl λ m k=>cV (z m k) (Nat.le_add_right ..))
 |a::l,d::ps,P,h,s,w,u,L,hP,hl,ba,bd,z,k,q=>by
  have k':s+2*(l.length+1)<=1000:=k
  have ha:=ba a (.head _)
  have hd:=bd d (.head _)
  refine aG (L.get (j:=a) (by simp only[hP];exact ha)) λ i i1 i2=>?_
  have si:=mT (j:=a) z
  have Je:=L.set i1 ((P[a]?).getD []++[d])
  have LX:(P.set a ((P[a]?).getD []++[d])).length=c:=by rw[List.length_set,hP]
  have PK:=tw (P:=P) (j:=a) (l:=(P[a]?).getD []++[d]) (λ l m=>Nat.le_succ_of_le (z l m)) (by rw[eQ];exact jj si)
  refine aG (Je.get (j:=d) (by simp only[LX];exact hd)) λ j j1 j2=>?_
  have sj:=mT (j:=d) PK
  generalize P.set a ((P[a]?).getD []++[d])=UI at*
  have PM:=Je.set j1 ((UI[d]?).getD []++[a])
  rw[bg] at Je j2 PM
  have ih:=vE (C:=C) (x:=x) (yb:=yb) (K:=K) hp OB l ps _ _ (s+2) (some (.int a)) (some (.int d)) PM (by rw[List.length_set,LX]) (aQ (aQ hl (OB i (mB i1))) (OB j (mB j1)))
   (λ a m=>ba a (.tail _ m)) (λ a m=>bd a (.tail _ m)) (tw (λ l m=>Nat.le_succ_of_le (PK l m)) (by rw[eQ];exact jj sj)) (by exact ai [_,_] (Pl (Pl X0 (Nm 2)) (Ml 2 X1)) (Nm 1000) 1 (Pl X0 (Ml 2 (Pl X1 (Nm 1)))) (Nm 1000) rfl k') λ P h w u a b c d=>q P h w u a b c λ m k=>cV (d m k) (by show _<=s+2*(l.length+1);exact aL [_,_] (Pl (Pl X0 (Nm 2)) (Ml 2 X1)) (Pl X0 (Ml 2 (Pl X1 (Nm 1)))) rfl)
  simp only[bg] at ih
  refine IU ⟨trivial,hl _ _ hp⟩ ?_;refine cQ L.f (xM i1) ?_;refine bC i2 ?_;refine cb i2 (by rw[ac];unfold aZ;exact aS [_,_,_] (Pl X0 (Nm 1)) (Nm 1000000) 1 (Pl X1 (Ml 2 (Pl X2 (Nm 1)))) (Nm 1000) 1 X0 X1 rfl k' si) ?_;refine cQ Je.f (xM j1) ?_;refine bC j2 ?_;refine cb j2 (by rw[ac];unfold aZ;exact aS [_,_,_] (Pl X0 (Nm 1)) (Nm 1000000) 1 (Pl X1 (Ml 2 (Pl X2 (Nm 1)))) (Nm 1000) 1 X0 (Pl X1 (Nm 1)) rfl k' sj) ?_;exact ih
theorem uo{Q:V->H->Prop}(S:Sane U)(hu:bF h x U)
  (q:∀F ls P h',le h h'->LL h' F ls P->P.length=U.count->(∀l∈P,l.length<=1000)->Q (.ref F) h'):ah prog (n+1) .qy [.ref x.u] Q h:=by
 have cT:=S.len
 have DN:=hu.len
 have hc:=S.cnt
 refine bJ rfl ?_;refine ay hu.u rfl ?_;refine fT (cO hc (by decide)) ?_
 refine CX (λ h' l=>trivial) _ [] h (av _) (λ u0 m=>nomatch m) List.nodup_nil λ ls bB bI ha hn IN=>?_
 have IN:ls.length=U.count:=by simp only[IN,rO,ac,List.length_range];exact Nat.zero_add _
 refine bf (by rw[dR,IN];exact cO hc (by decide)) λ F hF=>?_
 have cq:=aX (o:=.list (ls.map .ref)) bI hF
 have dM:=hu.le cq
 refine ay dM.u rfl ?_;refine cA dM.bs (be (by exact aS [_,_] X0 (Nm 10) 1 X1 (Nm 10) 1 X0 X1 rfl cT (bw DN))) ?_
 refine pq hu (λ k fr h'=>le h h'/\∃P z w u,LL h' F ls P/\P.length=U.count/\(∀l∈P,l.length<=20*k)/\fr=[some (.ref x.u),some (.ref F),z,w,u,none]) (λ u0 u0 u0 i=>i.1) ?_ ?_
  ⟨cq,_,none,none,none,LL.start hF (λ a m=>(ha a m).2) hn IN,List.length_replicate,λ l m=>by rw[(List.mem_replicate.mp m).2];exact dz _,rfl⟩
 ·rintro k y b fr h' G e1 e2 tW Kb ⟨hl,P,z,w,u,L,hP,hs,rfl⟩ kn
  have s:=S.gY k b e2
  have IR:=Kb.b
  have Fo:=kn [some (.ref x.u),some (.ref F),some (.ref y.b),w,u,none] h' ⟨hl,P,_,w,u,L,hP,λ l m=>cV (hs l m) (by exact aL [_] (Ml 20 X0) (Ml 20 (Pl X0 (Nm 1))) rfl),rfl⟩
  have E9:=s.kZ
  have Ag:=s.ends
  have VI:=s.to
  cases he:b.end_ with
  |branch c t f=>rw[he] at IR;refine ay IR rfl ?_;refine az rfl ?_;exact Fo
  |call f k l=>rw[he] at IR;refine ay IR rfl ?_;refine az rfl ?_;exact Fo
  |give f l=>rw[he] at IR;refine ay IR rfl ?_;refine az rfl ?_;exact Fo
  |goto j l=>
   rw[he] at IR E9 Ag VI
   refine nQ (tW.at_ (VI j (.head _))) λ yj bj j1 j2 Kj=>?_
   have sj:=S.gY j bj j2
   have E9:l.length<=10:=E9
   have hk:=(fQ e2).1
   refine ay IR rfl ?_;refine az rfl ?_;refine ay IR rfl ?_;refine az rfl ?_;refine ay tW.u rfl ?_;refine ay IR rfl ?_;refine az rfl ?_;refine cQ tW.bs (xM j1) ?_;refine ay Kj.b rfl ?_;refine QM Kj.p (be E9) (be sj.Fm) ?_
   refine vE (hu.gY j yj bj j1 j2).p (λ a m=>(ha a m).1) l bj.params P h' (20*k) w u L hP hl Ag sj.params hs (by exact fH [_,_,_] (Pl (Ml 20 X0) (Ml 2 X1)) (Nm 1000) 20 X2 (Nm 10) 2 X1 (Nm 10) 20 (Pl X0 (Nm 1)) X2 rfl cT E9 hk) λ P h w u a b c d=>?_
   exact kn _ _ ⟨c,P,_,w,u,a,b,λ m e=>cV (d m e) (by exact ai [_,_] (Pl (Ml 20 X0) (Ml 2 X1)) (Ml 20 (Pl X0 (Nm 1))) 2 X1 (Nm 10) rfl E9),rfl⟩
 ·rintro fr h' ⟨hl,P,z,w,u,L,hP,hs,rfl⟩
  exact bD (av _) (q F ls P h' hl L hP λ l m=>cV (hs l m) (by exact ai [_] (Ml 20 X0) (Nm 1000) 20 X0 (Nm 10) rfl cT))
structure jm (es:List (Int×V)) (f:Nat->Option Nat):Prop where
 at_:∀r:Nat,aE es (r:Int)=(f r).map λ p=>V.int (p:Int)
theorem jm.put{es:List (Int×V)}{f:Nat->Option Nat}(x:jm es f)(r p:Nat):jm (dT es (r:Int) (.int (p:Int))) (λ s=>if s=r then some p else f s):=⟨λ s=>by
 rw[Bn]
 by_cases e:s=r
 ·rw[if_pos (congrArg _ e),if_pos e];rfl
 ·rw[if_neg λ q=>e (mC q),if_neg e];exact x.at_ s⟩
theorem jm.some{f:Nat->Option Nat}(x:jm es f)(e:f r=.some p):aE es (r:Int)=.some (.int (p:Int)):=by rw[x.at_ r,e];rfl
theorem jm.isSome{f:Nat->Option Nat}(x:jm es f)(r:Nat):(aE es (r:Int)).isSome=(f r).isSome:=by rw[x.at_ r];cases f r<;>rfl
theorem Bp{f:Nat->Option Nat}{K:Out->Fr->H->Prop}(hd:h d=some (.ao es))(ho:jm es f)(hf:∀s p,f s=some p->p<950)(hg:h g=some (.list l)):∀(E:List Nat) (T:Nat) (z:Option V),
  (∀(T':Nat) z,(∀p,T'.testBit p=true↔T.testBit p=true\/∃s∈E,f s=some p)->K .next [s0,some (.ref d),s2,some (.int T'),z] h)->
  cw [4] (wB C i9) (λ h'=>h' g=some (.list l)) (aB E) [s0,some (.ref d),s2,some (.int T),z] K h:=by
 intro xR
 induction xR with
 |nil=>
  intro T z q
  exact kR hg (q T z λ p=>⟨.inl,λ h=>h.elim id λ hP=>by refine aG hP λ u0 h u0=>?_;exact nomatch h⟩)
 |cons s E aU=>
  intro T z q
  refine f9 hg ?_;refine Vw hd ?_
  cases hs:f s with
  |none=>
   refine sM ((ho.isSome s).trans (by rw[hs];rfl)) ?_
   refine aU T _ λ T' z e=>q T' z λ p=>(e p).trans (or_congr_right ⟨λ hP=>by refine aG hP λ u hu e=>?_;exact⟨u,.tail _ hu,e⟩,λ hP=>?_⟩)
   obtain⟨u,hu,e⟩:=hP
   rcases ci hu with rfl|hu
   ·rw[hs] at e;exact dD e
   ·exact⟨u,hu,e⟩
  |some p=>
   refine wj ((ho.isSome s).trans (by rw[hs];rfl)) ?_;refine dj hd (ho.some hs) ?_;refine Ja (Nat.lt_trans (hf s p hs) (by decide)) ?_;refine IM ?_
   refine aU (io T (rB p)) _ λ T' z e=>q T' z λ t=>(e t).trans ?_
   rw[bh,gF,Bool.or_eq_true,decide_eq_true_eq,or_assoc]
   refine or_congr_right ⟨λ h=>?_,λ⟨u,hu,e'⟩=>?_⟩
   ·rcases h with rfl|⟨u,hu,e'⟩
    ·exact⟨s,.head _,hs⟩
    ·exact⟨u,.tail _ hu,e'⟩
   ·rcases ci hu with rfl|hu
    ·rw[hs] at e';exact .inl (c8 e')
    ·exact .inr ⟨u,hu,e'⟩
theorem pU{f:Nat->Option Nat}{Q:V->H->Prop}(hc:c<=900)(x:jl h ap m M)(hM:M.length=c)(hb:∀k∈M,k<2^c)(hr:r<c)
  (hd:h d=some (.ao es))(ho:jm es f)(hf:∀s p,f s=some p->p<950)
  (q:∀T:Nat,(∀p,T.testBit p=true↔∃s,((M[r]?).getD 0).testBit s=true/\f s=some p)->Q (.int T) h):ah prog (n+2) .km [.ref ap,.ref d,.int r] Q h:=by
 have hw:dZ ((M[r]?).getD 0)<=1000:=cV (lQ (o4 hb)) (cV hc (by decide))
 refine bJ rfl ?_;refine ay x.ap rfl ?_;refine cQ x.m (MK (by rw[hM];exact hr)) ?_;refine pN hw λ g hg=>?_
 refine cA (aa ..) (by rw[ac];exact cO (cV nO hw) (by decide)) ?_
 refine Bp (ax hd hg) ho hf (aa ..) (jc _) 0 none λ T z e=>bD (aA hg) (q T λ p=>(e p).trans ⟨λ h=>?_,λ hP=>by refine aG hP λ s a b=>?_;exact .inr ⟨s,iw.mpr a,b⟩⟩)
 rcases h with h|⟨s,a,b⟩
 ·rw[Nat.zero_testBit] at h;exact kK h
 ·exact⟨s,iw.mp a,b⟩
theorem zN{n d g T r:Nat}{f:Nat->Option Nat}{K:Out->Fr->H->Prop}(hd:h d=some (.ao es))(ho:jm es f)(hf:∀s p,f s=some p->p<950)(hg:h g=some (.list l))
  (q:∀z,K .next [s0,some (.ref d),s2,some (.int r),some (.int T),z] h)(u:∀s p fr,f s=some p->T.testBit p=false->K (.ret (.int p)) fr h):∀(E:List Nat) (z:Option V),
  cw [5] (wB (ah prog (n+1)) ja) (λ h'=>h' g=some (.list l)) (aB E) [s0,some (.ref d),s2,some (.int r),some (.int T),z] K h:=by
 intro xR
 induction xR with
 |nil=>
  intro z
  exact kR hg (q z)
 |cons s E aU=>
  intro z
  have ih:=aU (some (.int s))
  refine f9 hg ?_;refine Vw hd ?_
  cases hs:f s with
  |none=>refine sM ((ho.isSome s).trans (by rw[hs];rfl)) ?_;exact ih
  |some p=>
   refine wj ((ho.isSome s).trans (by rw[hs];rfl)) ?_;refine dj hd (ho.some hs) ?_;refine tK (Nat.lt_trans (hf s p hs) (by decide)) ?_;refine oX (λ b=>?_) (λ b=>?_)
   ·refine dj hd (ho.some hs) ?_
    exact u s p _ hs (by cases e:T.testBit p;rfl;rw[e] at b;exact kK b)
   ·exact ih
theorem pV{f:Nat->Option Nat}{Q:V->H->Prop}(hc:c<=900)(x:jl h ap m M)(hM:M.length=c)(hb:∀k∈M,k<2^c)(hr:r<c)
  (hd:h d=some (.ao es))(ho:jm es f)(hN:N<950)(hf:∀s p,f s=some p->p<N)(L:LL h F ls P)(hP:P.length=c)(OV:∀l∈P,l.length<=1000)
  (q:∀p:Nat,p<=N->(∀s,((M[r]?).getD 0).testBit s=true->f s≠some p)->Q (.int p) h):ah prog (n+3) .kq [.ref ap,.ref d,.ref F,.int r] Q h:=by
 have OW:∀s p,f s=some p->p<950:=λ s p e=>Nat.lt_trans (hf s p e) hN
 refine aG (L.get (j:=r) (by simp only[hP];exact hr)) λ a Sf ML=>?_
 refine bJ rfl ?_;refine pU hc x hM hb hr hd ho OW λ T hT=>?_
 refine cQ L.f (xM Sf) ?_;refine cA ML (by rw[ac];exact cO (mT OV) (by decide)) ?_
 have VJ:T<2^N:=bZ.mpr λ p hp=>by refine aG ((hT p).mp hp) λ s u0 e=>?_;exact hf s p e
 have Sh:∀p:Nat,T.testBit p=false->∀s,((M[r]?).getD 0).testBit s=true->f s≠some p:=λ p hp s hs e=>by
  rw[(hT p).mpr ⟨s,hs,e⟩] at hp;exact IJ hp
 refine zN hd ho OW ML (λ z=>?_) (λ s p fr e b=>bD (av _) (q p (Nat.le_of_lt (hf s p e)) (Sh p b))) _ none
 refine qT (cV (lQ VJ) (cV (Nat.le_of_lt hN) (by decide))) λ i hi SV=>?_
 exact bD (av _) (q i (cV hi (lQ VJ)) (Sh i SV))
structure Fq (c:Nat) (entry M:List Nat) (N:Nat) (es:List (Int×V)) (f:Nat->Option Nat):Prop where
 is:jm es f
 dk:Dk c (λ u0=>False) es
 lt:∀s p,f s=some p->p<N
 ap:∀r s p,r≠s->((M[r]?).getD 0).testBit s=true->((M[s]?).getD 0).testBit r=true->f r=some p->f s≠some p
 en:∀i r,entry[i]?=some r->f r=some i
theorem Bq{K:Out->Fr->H->Prop}(hc:c<=900)(he:h e=some (.list l))(ed:e≠d):∀(E D:List Nat) (es:List (Int×V)) (f:Nat->Option Nat) (z w:Option V),
  (D++E).Nodup->(∀r∈E,r<c)->jm es f->Dk c (λ u0=>False) es->(∀s p,f s=some p↔D[p]?=some s)->
  (∀es f z w,jm es f->Dk c (λ u0=>False) es->(∀s p,f s=some p↔(D++E)[p]?=some s)->K .next [s0,s1,s2,some (.ref d),z,w,s6] (aC h d (.ao es)))->
  cw [4,5] (wB C mq) (λ h'=>h' e=some (.list l)) (iK D.length (aB E)) [s0,s1,s2,some (.ref d),z,w,s6] K (aC h d (.ao es)):=by
 intro xR
 induction xR with
 |nil=>
  intro D es f z w _ _ o k i q
  exact kR (ag he ed) (q es f z w o k (by rw[eE];exact i))
 |cons r E aU=>
  intro D es f z w nd b o k i q
  have hr:r∉D:=λ m=>(List.nodup_append.mp nd).2.2 r m r (.head _) rfl
  have nd':(D++[r]++E).Nodup:=by rw[d6];exact nd
  have ih:=aU (D++[r]) _ _ (some (.int D.length)) (some (.int r)) nd' (λ p m=>b p (.tail _ m)) (o.put r D.length) ((k.put (b r (.head _)) _).imp λ u0 h=>h.elim) (λ s p=>by
   by_cases e:s=r
   ·rw[if_pos e,e]
    refine⟨λ h=>by rw[←c8 h,wf (bE _),Nat.sub_self];rfl,λ h=>?_⟩
    by_cases hp:p<D.length
    ·rw[List.getElem?_append_left hp] at h;exact absurd (mB h) hr
    ·have:=(fQ h).1
     rw[eQ] at this
     have this:p<D.length+1:=this
     exact congrArg some (by exact dP (ai [_,_] X0 X1 1 X0 X1 rfl (Nat.le_of_not_lt hp)) (ai [_,_] X0 X1 1 (Pl X0 (Nm 1)) (Pl X1 (Nm 1)) rfl this))
   ·rw[if_neg e,i s p]
    refine⟨λ h=>by rw[List.getElem?_append_left (fQ h).1];exact h,λ h=>?_⟩
    by_cases hp:p<D.length
    ·rw[List.getElem?_append_left hp] at h;exact h
    ·rw[wf (by exact ai [_,_] X0 X1 1 X0 X1 rfl (Nat.le_of_not_lt hp))] at h
     have:=mB h
     exact absurd (cP this) e) (λ es f z w a b c=>q es f z w a b (by rw[d6] at c;exact c))
  rw[←a9 h d (.ao es),eQ] at ih
  refine f9 (ag he ed) ?_;refine xT (aa ..) (cO (cV k.len hc) (by decide)) ?_;exact ih
theorem Fq.put{f:Nat->Option Nat}(x:Fq c entry M N es f)(hr:r<c)(hn:f r=none)(hp:p<=N)(ha:∀s,((M[r]?).getD 0).testBit s=true->f s≠some p):
  Fq c entry M (N+1) (dT es (r:Int) (.int (p:Int))) (λ s=>if s=r then some p else f s) where
 is:=x.is.put r p
 dk:=(x.dk.put hr _).imp λ u0 h=>h.elim
 lt:=λ s q e=>by
  by_cases h:s=r
  ·rw[if_pos h] at e;obtain rfl:=c8 e;exact Nat.lt_succ_of_le hp
  ·rw[if_neg h] at e;exact Nat.lt_succ_of_lt (x.lt s q e)
 ap:=λ a b q ne h1 h2 e e'=>by
  by_cases ea:a=r
  ·rw[if_pos ea] at e;obtain rfl:=c8 e
   rw[if_neg λ z=>ne (ea.trans z.symm)] at e'
   exact ha b (ea ▸ h1) e'
  ·rw[if_neg ea] at e
   by_cases eb:b=r
   ·rw[if_pos eb] at e';obtain rfl:=c8 e'
    exact ha a (eb ▸ h2) e
   ·rw[if_neg eb] at e';exact x.ap a b q ne h1 h2 e e'
 en:=λ i s e=>by
  have:=x.en i s e
  by_cases h:s=r
  ·rw[h,hn] at this;exact dD this
  ·rw[if_neg h];exact this
theorem Br{K:Out->Fr->H->Prop}(hc:c<=900)(x:jl h ap m M)(hM:M.length=c)(hb:∀k∈M,k<2^c)(L:LL h F ls P)(hP:P.length=c)(OV:∀l∈P,l.length<=1000)
  (hw:h w=some (.list l))(d0:∀a,a=ap\/a=m\/a=F\/a∈ls\/a=w->a≠d):∀(E:List Nat) (N:Nat) (es:List (Int×V)) (f:Nat->Option Nat) (z:Option V),(∀r∈E,r<c)->N+E.length<940->Fq c entry M N es f->
  (∀N' es f' z,N'<=N+E.length->Fq c entry M N' es f'->(∀r,f r≠none->f' r≠none)->(∀r∈E,f' r≠none)->K .next [s0,some (.ref ap),some (.ref F),some (.ref d),s4,z,s6] (aC h d (.ao es)))->
  cw [5] (wB (ah prog (n+3)) ms) (λ h'=>h' w=some (.list l)) (aB E) [s0,some (.ref ap),some (.ref F),some (.ref d),s4,z,s6] K (aC h d (.ao es)):=by
 intro xR
 induction xR with
 |nil=>
  intro N es f z _ _ S q
  exact kR (ag hw (d0 w (.inr (.inr (.inr (.inr rfl)))))) (q N es f z (bE _) S (λ u0=>id) λ u0 m=>nomatch m)
 |cons r E aU=>
  intro N es f z b k S q
  have k':N+(E.length+1)<940:=k
  have hr:=b r (.head _)
  refine f9 (ag hw (d0 w (.inr (.inr (.inr (.inr rfl)))))) ?_;refine M8 (aa ..) ?_
  cases hf:f r with
  |some p=>
   refine sM (by rw[S.is.isSome,hf];rfl) ?_
   refine aU N es f _ (λ p m=>b p (.tail _ m)) (by exact ai [_,_] (Pl (Pl X0 X1) (Nm 1)) (Nm 940) 1 (Pl (Pl X0 (Pl X1 (Nm 1))) (Nm 1)) (Nm 940) rfl k') S λ N' es f' z a b c e=>q N' es f' z (cV a (by show _<=N+(E.length+1);exact aL [_,_] (Pl X0 X1) (Pl X0 (Pl X1 (Nm 1))) rfl)) b c λ s m=>?_
   rcases ci m with rfl|m
   ·exact c s (by rw[hf];exact nofun)
   ·exact e s m
  |none=>
   refine wj (by rw[S.is.isSome,hf];rfl) ?_
   refine pV hc ⟨ag x.ap (d0 ap (.inl rfl)),ag x.m (d0 m (.inr (.inl rfl)))⟩ hM hb hr (aa ..) S.is (by exact ai [_,_] (Pl X0 (Nm 1)) (Nm 950) 1 (Pl (Pl X0 (Pl X1 (Nm 1))) (Nm 1)) (Nm 940) rfl k') S.lt (L.other (d0 F (.inr (.inr (.inl rfl)))) λ a m=>d0 a (.inr (.inr (.inr (.inl m))))) hP OV λ p hp ha=>?_
   refine xT (aa ..) (cO (cV S.dk.len hc) (by decide)) ?_
   have ih:=aU (N+1) _ _ (some (.int r)) (λ p m=>b p (.tail _ m)) (by exact ai [_,_] (Pl (Pl (Pl X0 (Nm 1)) X1) (Nm 1)) (Nm 940) 1 (Pl (Pl X0 (Pl X1 (Nm 1))) (Nm 1)) (Nm 940) rfl k') (S.put hr hf hp ha) λ N' es f' z a b c e=>q N' es f' z (cV a (by show _<=N+(E.length+1);exact aL [_,_] (Pl (Pl X0 (Nm 1)) X1) (Pl X0 (Pl X1 (Nm 1))) rfl)) b
    (λ s hs=>c s (by by_cases e:s=r;rw[if_pos e];exact nofun;rw[if_neg e];exact hs)) λ s m=>by
     rcases ci m with rfl|m
     ·exact c s (by rw[if_pos rfl];exact nofun)
     ·exact e s m
   rw[←a9 h d (.ao es)] at ih
   exact ih
theorem G7(a b:Nat):Max.max (a:Int) (b:Int)=((Max.max a b:Nat):Int):=by
 rcases Nat.le_total a b with h|h
 ·exact(Int.max_eq_right (Int.ofNat_le.mpr h)).trans (congrArg Int.ofNat (Nat.max_eq_right h)).symm
 ·exact(Int.max_eq_left (Int.ofNat_le.mpr h)).trans (congrArg Int.ofNat (Nat.max_eq_left h)).symm
theorem Bt{f:Nat->Option Nat}{K:Out->Fr->H->Prop}(hd:h d=some (.ao es))(o:jm es f)(hf:∀s p,f s=some p->p<940):∀(E:List (Int×V)) (m:Nat) (z:Option V),(∀p∈E,∃r q:Nat,p.1=(r:Int)/\f r=some q)->m<=940->
  (∀(m':Nat) z,m<=m'->m'<=940->(∀r q:Nat,(r:Int)∈E.map (·.1)->f r=some q->q<m')->K .next [s0,s1,s2,some (.ref d),s4,z,some (.int m')] h)->
  cw [5] (wB C mu) (λ h'=>h' d=some (.ao es)) (E.map λ p=> .int p.1) [s0,s1,s2,some (.ref d),s4,z,some (.int m)] K h:=by
 intro xR
 induction xR with
 |nil=>
  intro m z _ k q
  exact DM hd (q m z (bE _) k λ u0 u0 h=>nomatch h)
 |cons pX E aU=>
  obtain⟨i,v⟩:=pX
  intro m z b k q
  refine fh (b _ (.head _)) λ r p e1 e2=>?_
  subst e1
  have hp:=hf r p e2
  refine IU hd ?_;refine dj hd (o.some e2) ?_;refine oE (q:=1) (by exact ai [_] (Pl (Pl X0 (Nm 1)) (Nm 1)) (Nm 2000000) 1 (Pl X0 (Nm 1)) (Nm 940) rfl hp) ?_
  have ih:=aU (max m (p+1)) (some (.int r)) (λ p m=>b p (.tail _ m)) (Nat.max_le.mpr ⟨k,hp⟩) λ m' z a b c=>q m' z (cV (Nat.le_max_left ..) a) b λ s t hs et=>by
   rcases ci hs with e|hs
   ·cases mC e
    rw[e2] at et;obtain rfl:=c8 et
    exact kI (Nat.lt_succ_self p) (cV (Nat.le_max_right ..) a)
   ·exact c s t hs et
  rw[←G7] at ih
  exact ih
structure Jf (U:Un) (B:List Nat) (f:Nat->Option Nat) (cnt:Nat):Prop where
 all:∀r,cC U r->∃p,f r=some p
 lt:∀r p,f r=some p->p<cnt
 le:cnt<=940
 en:∀i r,U.entry[i]?=some r->f r=some i
 YP:U.entry.length<=cnt
 ap:∀r cE,AM U B r cE->∀s,cE.testBit s=true->s≠r->∀p,f r=some p->f s≠some p
structure Ap (h:H) (pl d cnt:Nat) (es:List (Int×V)):Prop where
 pl:h pl=some (.inst .Places [(.off,.ref d),(.count,.int cnt)])
 d:h d=some (.ao es)
theorem uq{Q:V->H->Prop}(S:Sane U)(hu:bF h x U)(h0:0<U.blocks.length)(OC:U.entry.Nodup)
  (hK:∀(i:Nat) (b:Block),U.blocks[i]?=some b->sub (cp U Kn b) ((Kn[i]?).getD 0))
  (q:∀(B:List Nat) pl d cnt es f h',B.length=U.blocks.length->(∀(i:Nat) (b:Block),U.blocks[i]?=some b->B[i]?=some (cp U B b))->Af B Kn->le h h'->Ap h' pl d cnt es->jm es f->Jf U B f cnt->Q (.ref pl) h'):
  ah prog (n+7) .qz [.ref x.u] Q h:=by
 have hc:=S.cnt
 refine bJ rfl ?_;refine u8 S hu h0 hK λ B ap m M bB hB S0 S5 bI X G=>?_
 refine uo S (hu.le bI) λ F ls P cN cq L hP OV=>?_;refine cR λ d hd=>?_
 have oG:=aF bI cq
 have W0:=bn oG hd
 have aM:=X.keep cq
 have dM:=hu.le oG
 have oQ:=dM.le (aA (o:=.ao []) hd)
 refine ay oQ.u rfl ?_;refine FR oQ.e (be S.kZ) ?_
 refine Bq hc dM.e (aj dM.e hd) U.entry [] [] (λ u0=>none) none none OC S.entry ⟨λ u0=>rfl⟩ Dk.nil (λ s p=>⟨λ h=>(nomatch h),λ h=>(nomatch h)⟩) λ es f z w o k e=>?_
 have FT:=dM.le (aA (o:=.ao es) hd)
 refine qV S FT λ Gl g gn Sj UJ hg=>?_
 have ng:=aD hg
 refine cA (aa ..) (by rw[ac];exact cO (cV (ir gn Sj) hc) (by decide)) ?_
 simp only[c6 ng.1.symm]
 have lg:=aA (o:=.list (aB Gl)) ng.2
 have Lg:=L.keep lg
 have Xg:=aM.keep lg
 have hw:aC cN g (.list (aB Gl)) g=some (.list (aB Gl)):=aa ..
 have Sk:=(bu (o:=.list (aB Gl)) ng.1.symm).trans hd
 refine Br (entry:=U.entry) hc Xg G.len G.bd Lg hP OV hw (λ a h=>?_) Gl U.entry.length es f w Sj (cO (bQ S.kZ (cV (ir gn Sj) hc)) (eP rfl)) ⟨o,k,λ s p h=>(fQ ((e s p).mp h)).1,λ r s p ne u0 u0 h h'=>?_,λ i r h=>(e r i).mpr h⟩ λ N es f z hN St hk UK=>?_
 ·rcases h with rfl|rfl|rfl|h|rfl
  ·exact aj Xg.ap Sk
  ·exact aj Xg.m Sk
  ·exact aj Lg.f Sk
  ·exact Lg.kA Sk a h
  ·exact ng.1
 ·have h:=(e r p).mp h
  rw[(e s p).mp h'] at h
  exact ne (c8 h).symm
 have W1:N<=940:=cV hN (cV (bQ S.kZ (cV (ir gn Sj) hc)) (eP rfl))
 have rG:=aQ (o:=.ao es) (aX (o:=.list (aB Gl)) oG ng.2) W0
 have sT:=hu.le rG
 refine ay sT.u rfl ?_;refine qi sT.e (be S.kZ) ?_;refine FQ (aa ..) (cO (cV St.dk.len hc) (by decide)) ?_
 have Nh:∀p∈es,∃r q:Nat,p.1=(r:Int)/\f r=some q:=λ p m=>by
  refine aG (St.dk.lt p.1 (List.mem_map_of_mem m)) λ r e1 u0=>?_
  have:=g7.mpr (List.mem_map_of_mem (f:=(·.1)) m)
  rw[e1,St.is.isSome] at this
  refine aK (Option.isSome_iff_exists.mp this) λ q e2=>?_
  exact⟨r,q,e1,e2⟩
 have W2:(aB U.entry).length=U.entry.length:=ac
 rw[W2]
 refine Bt (aa ..) St.is (λ s p e=>kI (St.lt s p e) W1) es U.entry.length z Nh (by have:=S.kZ;exact ai [_] X0 (Nm 940) 1 X0 (Nm 10) rfl this) λ cnt z c1 c2 c3=>?_
 refine cR λ pl uD=>?_;refine bJ rfl ?_;refine cm (aa ..) rfl (dQ rfl) ?_;refine cm (aa ..) rfl (dQ rfl) ?_
 refine dL (av _) ?_
 refine bD (av _) (q B pl d cnt es f _ hB S0 S5 ?_ ⟨by exact aa ..,?_⟩ St.is ⟨λ r hr=>?_,λ r p e=>c3 r p ?_ e,c2,St.en,c1,λ r cE hm s hs ne p e1 e2=>?_⟩)
 ·rw[a9,a9];exact aX rG uD
 ·rw[a9,a9];exact ax (aa ..) uD
 ·have:=UK r (UJ r hr)
  cases e:f r with
  |none=>exact absurd e this
  |some p=>exact⟨p,rfl⟩
 ·exact g7.mp (by rw[St.is.isSome,e];rfl)
 ·refine bV (G.SY r cE hm s hs ne) λ b1 b2=>?_
  exact St.ap r s p ne.symm b1 b2 e1 e2
noncomputable def iy(es:List (Nat×Nat)):List (Int×V):=es.map λ p=>((p.1:Int),V.int (p.2:Int))
noncomputable def wk(es:List (Nat×Nat)):Prop:=(es.map (·.1)).Nodup
theorem yO(es:List (Nat×Nat)):(iy es).map (λ p=>V.int p.1)=aB (es.map (·.1)):=by unfold iy aB;simp only[List.map_map,List.map_map];rfl
theorem hU:∀{es:List (Nat×Nat)} {t s:Nat},wk es->(t,s)∈es->aE (iy es) (t:Int)=some (.int (s:Int))
 |p::es,t,s,k,m=>by
  dsimp only[aE,iy]
  rw[List.map_cons,List.find?_cons]
  refine bV (kY k) λ k1 k2=>?_
  rcases ci m with rfl|m
  ·rw[dE rfl];rfl
  ·have:p.1≠t:=λ e=>k1 (List.mem_map.mpr ⟨(t,s),m,e.symm⟩)
   rw[eY λ e=>this (mC e)]
   exact hU k2 m
theorem G8(es:List (Nat×Nat))(t:Nat):xQ (iy es) (t:Int)=iy (es.filter λ p=>decide (p.1≠t)):=by
 delta xQ iy
 simp only[List.filter_map]
 congr 1
 apply List.filter_congr
 intro p _
 show decide ((p.1:Int)≠(t:Int))=decide (p.1≠t)
 exact decide_eq_decide.mpr (not_congr Int.ofNat_inj)
theorem G9:∀{es:List (Nat×Nat)} {t:Nat} (x:Nat),t∈es.map (·.1)->dT (iy es) (t:Int) (.int (x:Int))=iy (es.map λ p=>if p.1=t then(p.1,x) else p):=λ{es t} x m=>by
 unfold dT
 refine aG (iE m) λ p hp e=>?_
 rw[if_pos (show(iy es).any (λ kv=>decide (kv.1=(t:Int)))=true from List.any_eq_true.mpr ⟨_,List.mem_map.mpr ⟨p,hp,rfl⟩,dE (congrArg (λ n:Nat=>(n:Int)) e)⟩)]
 unfold iy
 simp only[List.map_map,List.map_map]
 apply List.map_congr_left
 intro q _
 by_cases e:q.1=t<;>simp[e,Int.ofNat_inj]
structure jo (h:H) (r d:Nat) (es:List (Nat×Nat)):Prop where
 r:h r=some (.inst .fC [(.sources,.ref d)])
 d:h d=some (.ao (iy es))
 k:wk es
 n:es.length<=10
theorem jo.ne{r d:Nat}(x:jo h r d es):r≠d:=λ e=>by have:=x.r;simp only[e,x.d] at this;cases this
theorem oi:(iy es).length=es.length:=dR ..
theorem jo.len{r d:Nat}(x:jo h r d es):(iy es).length<aZ:=by rw[oi];exact cO x.n (by decide)
theorem zO{r d w:Nat}{K:List V->H->Prop}(x:jo h r d es):∀(E acc:List (Nat×Nat)),(∀p∈E,p∈es)->
  K ((acc++E).map λ p=> .bool (decide ((p.2:Int)=(w:Int)))) h->
  dY 2 (kJ C lq) (wE C mc) (λ h'=>h' d=some (.ao (iy es))) [some (.ref r),some (.int w),z] (aB (E.map (·.1))) (acc.map λ p=> .bool (decide ((p.2:Int)=(w:Int)))) K h:=by
 intro xR
 induction xR with
 |nil=>
  intro acc _ q
  exact R9 x.d (by rw[eE] at q;exact q)
 |cons p E aU=>
  intro acc b q
  have ih:=aU (acc++[p]) (λ p m=>b p (.tail _ m)) (by rw[d6];exact q)
  simp only[iD] at ih
  refine R8 x.d ?_;refine ay x.r rfl ?_;refine dj x.d (hU x.k (b p (.head _))) ?_;exact ih
theorem ur{Q:V->H->Prop}(x:jo h r d es)(q:Q (.bool (es.any λ p=>decide (p.2=w))) h):ah prog (n+1) .cv [.ref r,.int w] Q h:=by
 refine bJ rfl ?_;refine ay x.r rfl ?_;refine FQ x.d x.len ?_
 simp only[yO]
 refine zO x es [] (λ u0 m=>m) ?_
 refine bf (by rw[dR];exact cO x.n (by decide)) λ a ha=>?_
 have rU:V.bool true∈(es.map λ p=>V.bool (decide ((p.2:Int)=(w:Int))))↔(es.any λ p=>decide (p.2=w))=true:=by
  rw[List.any_eq_true,List.mem_map]
  refine exists_congr λ p=>and_congr_right λ u0=>⟨λ e=>?_,λ e=>?_⟩
  ·injection e with e;exact dE (mC (gS e))
  ·rw[dE (show(p.2:Int)=(w:Int) from congrArg _ (gS e))]
 refine PC (aa ..) (λ v m=>by refine aG (iE m) λ p u0 ak=>?_;obtain rfl:=ak;trivial) (by rw[dR];exact cO x.n (by decide)) (λ m=>?_) (λ m=>?_)
 ·rw[rU.mp m] at q;exact bD (aA ha) q
 ·rw[Bool.eq_false_iff.mpr λ e=>m (rU.mpr e)] at q;exact bD (aA ha) q
noncomputable def gk(es:List (Nat×Nat)):List (Nat×Nat)->Option Nat
 |[]=>none
 |p::E=>bif es.any λ q=>decide (q.2=p.1) then gk es E else some p.1
noncomputable def qk:Option Nat->V
 |none=> .none
 |some t=> .int (t:Int)
theorem Bu{K:Out->Fr->H->Prop}(x:jo h r d es):∀(E:List (Nat×Nat)) (z:Option V),(gk es E=none->∀z,K .next [some (.ref r),z] h)->(∀t fr,gk es E=some t->K (.ret (.int t)) fr h)->
  cw [1] (wB (ah prog (n+1)) jy) (λ h'=>h' d=some (.ao (iy es))) (aB (E.map (·.1))) [some (.ref r),z] K h:=by
 intro xR
 induction xR with
 |nil=>
  intro z q _
  exact DM x.d (q rfl z)
 |cons p E aU=>
  intro z q u
  have e:gk es (p::E)=bif es.any λ q=>decide (q.2=p.1) then gk es E else some p.1:=rfl
  refine IU x.d ?_;refine cU x.r rfl rfl ?_;refine ur x ?_;refine oX (λ b=>?_) (λ b=>?_)
  ·have b:(es.any λ q=>decide (q.2=p.1))=false:=by cases y:(es.any λ q=>decide (q.2=p.1));rfl;rw[y] at b;exact kK b
   exact u p.1 _ (by rw[e,b];rfl)
  ·have b:(es.any λ q=>decide (q.2=p.1))=true:=by cases y:(es.any λ q=>decide (q.2=p.1));rw[y] at b;exact IJ b;rfl
   rw[e,b] at q u
   exact aU _ q u
theorem jG{Q:V->H->Prop}(x:jo h r d es)(q:Q (qk (gk es es)) h):ah prog (n+2) .eu [.ref r] Q h:=by
 refine bJ rfl ?_;refine ay x.r rfl ?_;refine FQ x.d x.len ?_
 rw[yO]
 exact Bu x es none (λ e z=>bD (av _) (by rw[e] at q;exact q)) λ t fr e=>bD (av _) (by rw[e] at q;exact q)
theorem vF{Q:V->H->Prop}(x:jo h r d es)(m:(t,s)∈es)(q:Q (.int s) (aC h d (.ao (iy (es.filter λ p=>decide (p.1≠t)))))):ah prog (n+1) .take [.ref r,.int t] Q h:=by
 refine bJ rfl ?_;refine ay x.r rfl ?_;refine bC x.d ?_;refine Uy x.d x.len (hU x.k m) ?_
 rw[G8]
 exact bD (av _) q
theorem pW{Q:V->H->Prop}(x:jo h r d ((t,s)::es))(q:Q (.int t) h):ah prog (n+1) .dK [.ref r] Q h:=by
 refine bJ rfl ?_;refine ay x.r rfl ?_;refine FO x.d (by rw[dR];exact x.len) λ a ha=>?_;refine cQ (aa ..) rfl ?_;exact bD (aA ha) q
theorem Ec{K:Out->Fr->H->Prop}(hr:h r=some (.inst .fC [(.sources,.ref d)]))(hd:h d=none):∀(E D:List (Nat×Nat)) (z w:Option V),wk (D++E)->(D++E).length<=10->
  (∀z w,K .next [some (.ref r),ts,ss,z,w] (aC h d (.ao (iy ((D++E).filter λ p=>decide (p.1≠p.2))))))->
  cw [3,4] (wB C i6) (λ u0=>True/\True) (iQ (aB (E.map (·.1))) (aB (E.map (·.2)))) [some (.ref r),ts,ss,z,w] K (aC h d (.ao (iy (D.filter λ p=>decide (p.1≠p.2))))):=by
 intro xR
 induction xR with
 |nil=>
  intro D z w _ _ q
  exact DM ⟨trivial,trivial⟩ (by rw[eE] at q;exact q z w)
 |cons pX E aU=>
  obtain⟨t,s⟩:=pX
  intro D z w k n q
  have ih:=aU (D++[(t,s)]) (some (.int t)) (some (.int s)) (by rw[d6];exact k) (by rw[d6];exact n) (λ z w=>by rw[d6];exact q z w)
  rw[List.filter_append] at ih
  have nd:D.length<=10:=cV (by simp only[eQ];exact Nat.le_add_right ..) n
  refine IU ⟨trivial,trivial⟩ ?_;refine oX (λ b=>?_) (λ b=>?_)
  ·have b:t≠s:=λ e=>by
    have b':(!decide ((t:Int)=(s:Int)))=true:=b
    rw[e,dE rfl] at b';exact kK b'
   have nm:(t:Int)∉(iy (D.filter λ p=>decide (p.1≠p.2))).map (·.1):=λ m=>by
    refine aG (iE m) λ p hp e=>?_
    refine aG (iE hp) λ p' S9 ak=>?_;obtain rfl:=ak
    have e:p'.1=t:=mC e
    have:=(List.nodup_append.mp (by simp only[wk,iD] at k;exact k)).2.2 p'.1 (List.mem_map_of_mem (f:=(·.1)) (List.mem_filter.mp S9).1) t (.head _)
    exact this e
   rw[rE (by exact dE b),List.filter_nil] at ih
   have e2:dT (iy (D.filter λ p=>decide (p.1≠p.2))) (t:Int) (.int (s:Int))=iy ((D.filter λ p=>decide (p.1≠p.2))++[(t,s)]):=by
    unfold dT
    rw[if_neg λ h=>by refine aG (List.any_eq_true.mp h) λ p hp e=>?_;exact nm (List.mem_map.mpr ⟨p,hp,gS e⟩)]
    unfold iy;simp only[iD];rfl
   rw[←e2,←a9 h d (.ao (iy (D.filter λ p=>decide (p.1≠p.2))))] at ih
   refine ay (ax hr hd) rfl ?_;refine xT (aa ..) (by rw[oi];exact cO (cV (List.length_filter_le ..) nd) (by decide)) ?_;exact ih
  ·have b:t=s:=Decidable.byContradiction λ e=>by
    have b':(!decide ((t:Int)=(s:Int)))=false:=b
    rw[eY λ z=>e (mC z)] at b';exact IJ b'
   rw[qg (by exact λ z=>(gS z) b),List.filter_nil,eE] at ih
   exact ih
theorem pY{Q:V->H->Prop}(hr:h r=some (.inst .fC []))(k:wk E)(hn:E.length<=10)
  (q:∀d,h d=none->Q .none (aC (aC h r (.inst .fC [(.sources,.ref d)])) d (.ao (iy (E.filter λ p=>decide (p.1≠p.2)))))):ah prog (n+1) .kg [.ref r,.tup (aB (E.map (·.1))),.tup (aB (E.map (·.2)))] Q h:=by
 refine bJ rfl ?_;refine cR λ d hd=>?_;refine cm (ax hr hd) rfl (dQ rfl) ?_
 have jN:=aj hr hd
 rw[c6 jN.symm]
 refine LP (by rw[ac,dR];exact cO hn (by decide)) (by rw[ac,dR];exact cO hn (by decide)) ?_
 exact Ec (aa ..) ((bu jN.symm).trans hd) E [] none none k hn λ z w=>dL (av _) (q d hd)
theorem Bv{Q:V->H->Prop}(x:jo h r d [(a,b),(b,a)])(ab:a≠b)(q:Q .none (aC h d (.ao (iy [(a,b),(b,o)])))):ah prog (n+1) .cS [.ref r,.int a,.int o] Q h:=by
 refine bJ rfl ?_;refine ay x.r rfl ?_;refine FO x.d (sm rfl) λ l hl=>?_
 have xr:=ax (p:=.list ((iy [(a,b),(b,a)]).map λ p=>V.int p.1)) x.r hl
 have xd:=ax (p:=.list ((iy [(a,b),(b,a)]).map λ p=>V.int p.1)) x.d hl
 refine cA (aa ..) (sm rfl) ?_;refine f9 (aa ..) ?_;refine ay xr rfl ?_;refine dj xd (hU x.k (.head _)) ?_;refine sM (eY λ e=>ab (mC e).symm) ?_
 refine f9 (aa ..) ?_;refine ay xr rfl ?_;refine dj xd (hU x.k (.tail _ (.head _))) ?_;refine wj (dE rfl) ?_;refine ay xr rfl ?_;refine xT xd (sm rfl) ?_
 have e:dT (iy [(a,b),(b,a)]) (b:Int) (.int (o:Int))=iy [(a,b),(b,o)]:=by
  rw[G9 o (.tail _ (.head _))]
  show iy [if a=b then(a,o) else(a,b),if b=b then(b,o) else(b,a)]=_
  rw[if_neg ab,if_pos rfl]
 have ne:=aj x.d hl
 refine kR (ag (aa ..) ne.symm) ?_
 refine dL ?_ q
 show le _ (aC (aC h l _) d (.ao (dT (iy [(a,b),(b,a)]) (b:Int) (.int (o:Int)))))
 simp only[e]
 exact eS (aA hl)
noncomputable def ww(p:Nat×Nat):V:=.tup [.str .move,.int p.1,.int p.2]
noncomputable def nq(E:List (Nat×Nat))(o:Nat):List (Nat×Nat):=match E.filter λ p=>decide (p.1≠p.2) with
 |[]=>[]
 |[p]=>[p]
 |[p,q]=>if q.2≠p.1 then[p,q] else if p.2≠q.1 then[q,p] else[(o,p.1),p,(q.1,o)]
 |_=>[]
structure Mv (h₀:H) (r d f:Nat) (es F:List (Nat×Nat)) (h:H):Prop where
 le:le h₀ h
 d0:h₀ d=none
 f0:h₀ f=none
 df:d≠f
 row:jo h r d es
 f:h f=some (.list (F.map ww))
 n:F.length+es.length<=10
theorem Mv.rf{r d f:Nat}(x:Mv h₀ r d f es F h):r≠f:=λ e=>by have:=x.f;rw[←e,x.row.r] at this;cases this
theorem Mv.PN{r d f:Nat}(x:Mv h₀ r d f es F h){t s:Nat}(m:(t,s)∈es):
  Mv h₀ r d f (es.filter λ p=>decide (p.1≠t)) (F++[(t,s)]) (aC (aC h d (.ao (iy (es.filter λ p=>decide (p.1≠t))))) f (.list (F.map ww++[ww (t,s)]))) where
 le:=aQ (aQ x.le x.d0) x.f0
 d0:=x.d0
 f0:=x.f0
 df:=x.df
 row:=⟨ag (ag x.row.r x.row.ne) x.rf,ag (aa ..) x.df,(List.Nodup.sublist ((List.filter_sublist).map _) x.row.k),cV (List.length_filter_le ..) x.row.n⟩
 f:=by simp only[iD];exact aa ..
 n:=by
  have:(es.filter λ p=>decide (p.1≠t)).length<es.length:=by
   rw[List.length_filter_lt_length_iff_exists]
   exact⟨(t,s),m,λ z=>(gS z) rfl⟩
  rw[eQ]
  exact aS [F.length,_,es.length] (Pl (Pl X0 (Nm 1)) X1) (Nm 10) 1 (Pl X1 (Nm 1)) X2 1 (Pl X0 X2) (Nm 10) rfl this x.n
theorem jx{K:Out->Fr->H->Prop}(x:Mv h₀ r d f [] F h)(q:K .next [s0,s1,s2,some (.ref r),some (.ref f),z] h):
  cj (wE (ah prog (n+3)) cY) (wB (ah prog (n+3)) cZ) (k+1) [s0,s1,s2,some (.ref r),some (.ref f),z] K h:=by
 refine kB ?_;refine ay x.row.r rfl ?_;refine AK x.row.d ?_;exact q
theorem fZ{K:Out->Fr->H->Prop}(x:Mv h₀ r d f es F h)(e:gk es es=some t)(m:(t,s)∈es)
  (q:∀h' z,Mv h₀ r d f (es.filter λ p=>decide (p.1≠t)) (F++[(t,s)]) h'->cj (wE (ah prog (n+3)) cY) (wB (ah prog (n+3)) cZ) k [s0,s1,s2,some (.ref r),some (.ref f),z] K h'):
  cj (wE (ah prog (n+3)) cY) (wB (ah prog (n+3)) cZ) (k+1) [s0,s1,s2,some (.ref r),some (.ref f),z] K h:=by
 have hn:(F.map ww).length<aZ:=by rw[dR];exact cO (cV (Nat.le_add_right ..) x.n) (by decide)
 refine kB ?_;refine ay x.row.r rfl ?_;refine AK x.row.d ?_;refine wj (by cases es;cases m;rfl) ?_;refine cU x.row.r rfl rfl ?_;refine jG x.row ?_
 simp only[e]
 refine bC x.f ?_;refine cU x.row.r rfl rfl ?_;refine vF x.row m ?_;refine bT (sm rfl) ?_;refine cb (ag x.f x.df.symm) hn ?_;exact q _ _ (x.PN m)
theorem Bw{K:Out->Fr->H->Prop}(x:Mv h₀ r d f [(a,b),(b,a)] F h)(ab:a≠b)(hF:F.length<=5)
  (q:∀h' z,Mv h₀ r d f [(b,o)] (F++[(o,a)]++[(a,b)]) h'->cj (wE (ah prog (n+3)) cY) (wB (ah prog (n+3)) cZ) k [s0,s1,some (.int o),some (.ref r),some (.ref f),z] K h'):
  cj (wE (ah prog (n+3)) cY) (wB (ah prog (n+3)) cZ) (k+1) [s0,s1,some (.int o),some (.ref r),some (.ref f),z] K h:=by
 have hn:(F.map ww).length<aZ:=by rw[dR];exact cO hF (by decide)
 have IP:(F.map ww++[ww (o,a)]).length<aZ:=by rw[eQ,dR];exact cO (jj hF) (by decide)
 have ef:gk [(a,b),(b,a)] [(a,b),(b,a)]=none:=by
  have h1:([(a,b),(b,a)].any λ q=>decide (q.2=a))=true:=List.any_eq_true.mpr ⟨(b,a),.tail _ (.head _),dE rfl⟩
  have h2:([(a,b),(b,a)].any λ q=>decide (q.2=b))=true:=List.any_eq_true.mpr ⟨(a,b),.head _,dE rfl⟩
  dsimp only[gk,gk];simp only[h1,h2];rfl
 have row:∀{p},jo (aC h f p) r d [(a,b),(b,a)]:=⟨ag x.row.r x.rf,ag x.row.d x.df,x.row.k,x.row.n⟩
 have y:Mv h₀ r d f [(a,b),(b,o)] (F++[(o,a)]) (aC (aC h f (.list (F.map ww++[ww (o,a)]))) d (.ao (iy [(a,b),(b,o)]))):=
  ⟨aQ (aQ x.le x.f0) x.d0,x.d0,x.f0,x.df,⟨ag (ag x.row.r x.rf) x.row.ne,aa ..,x.row.k,x.row.n⟩,by rw[iD];exact ag (aa ..) x.df.symm,by rw[eQ];show F.length+1+2<=10;exact ai [_] (Pl (Pl X0 (Nm 1)) (Nm 2)) (Nm 10) 1 X0 (Nm 5) rfl hF⟩
 refine kB ?_;refine ay x.row.r rfl ?_;refine AK x.row.d ?_;refine cU x.row.r rfl rfl ?_;refine jG x.row ?_
 simp only[ef]
 refine cU x.row.r rfl rfl ?_;refine pW x.row ?_;refine bC x.f ?_;refine bT (sm rfl) ?_;refine cb x.f hn ?_;refine cU (ag x.row.r x.rf) rfl rfl ?_;refine Bv row ab ?_
 refine bC y.f ?_;refine cU y.row.r rfl rfl ?_;refine vF y.row (.head _) ?_;refine bT (sm rfl) ?_
 have yt:=y.PN (.head _)
 have e:[(a,b),(b,o)].filter (λ p=>decide (p.1≠a))=[(b,o)]:=by
  rw[qg (by exact λ z=>(gS z) rfl),rE (by exact dE ab.symm)];rfl
 have ym:(F++[(o,a)]).map ww=F.map ww++[ww (o,a)]:=iD ..
 simp only[ym] at yt
 refine cb (ag (ag (aa ..) x.df.symm) x.df.symm) IP ?_
 simp only[e] at yt⊢
 exact q _ _ yt
theorem r7{Q:V->H->Prop}(k:wk E)(hn:E.length<=2)(hs:∀p∈E,p.1≠o)
  (q:∀f,h f=none->Q (.ref f) (aC h f (.list ((nq E o).map ww)))):ah prog (n+4) .n6 [.tup (aB (E.map (·.1))),.tup (aB (E.map (·.2))),.int o] Q h:=by
 refine bJ rfl ?_;refine cR λ r hr=>?_;refine pY (aa ..) k (cV hn (by decide)) λ d hd=>?_
 have nd:=aD hd
 simp only[a9]
 refine bf (sm rfl) λ f hf=>?_;refine nY 4 ?_
 have nf:=aD hf
 have VK:=aD nf.2
 have x:Mv h r d f (E.filter λ p=>decide (p.1≠p.2)) [] (aC (aC (aC h r (.inst .fC [(.sources,.ref d)])) d (.ao (iy (E.filter λ p=>decide (p.1≠p.2))))) f (.list [])):=
  ⟨aX (aQ (aA hr) nd.2) hf,nd.2,VK.2,nf.1.symm,⟨ag (ag (aa ..) nd.1.symm) VK.1.symm,ag (aa ..) nf.1.symm,List.Nodup.sublist ((List.filter_sublist).map _) k,cV (cV (List.length_filter_le ..) hn) (by decide)⟩,aa ..,cV (bw (Nat.zero_add _)) (cV (cV (List.length_filter_le ..) hn) (by decide))⟩
 have aY:∀{h' F},Mv h r d f [] F h'->F=nq E o->eO (.ret (.ref f)) Q h':=λ x e=>bD (jb (by rw[x.f,e]) x.le) (q f x.f0)
 have jN:∀p∈E.filter (λ p=>decide (p.1≠p.2)),p.1≠p.2/\p.1≠o:=λ p m=>⟨gS (List.mem_filter.mp m).2,hs p (List.mem_filter.mp m).1⟩
 have hk:wk (E.filter λ p=>decide (p.1≠p.2)):=x.row.k
 have hl:(E.filter λ p=>decide (p.1≠p.2)).length<=2:=cV (List.length_filter_le ..) hn
 have hm:nq E o=match E.filter λ p=>decide (p.1≠p.2) with
  |[]=>[]
  |[p]=>[p]
  |[p,q]=>if q.2≠p.1 then[p,q] else if p.2≠q.1 then[q,p] else[(o,p.1),p,(q.1,o)]
  |_=>[]:=rfl
 generalize E.filter (λ p=>decide (p.1≠p.2))=es at*
 have one:∀{t s:Nat},t≠s->gk [(t,s)] [(t,s)]=some t/\[(t,s)].filter (λ p=>decide (p.1≠t))=[]:=λ{t s} e=>by
  refine⟨?_,by rw[qg (by exact λ z=>(gS z) rfl)];rfl⟩
  dsimp only[gk]
  rw[show([(t,s)].any λ q=>decide (q.2=t))=false from by simp only[List.any_cons,eY (by exact e.symm)];rfl];rfl
 match es,x,jN,hk,hl,hm with
 |[],x,_,_,_,hm=>exact jx x (aY x hm.symm)
 |[(t,s)],x,jN,_,_,hm=>
  have e:=one (jN _ (.head _)).1
  refine fZ x e.1 (.head _) λ h' z x=>?_
  rw[e.2] at x
  exact jx x (aY x hm.symm)
 |[(t,s),(t',s')],x,jN,hk,_,hm=>
  have e:=(jN _ (.head _)).1
  have e':=(jN _ (.tail _ (.head _))).1
  have tt:t≠t':=λ z=>(kY hk).1 (z ▸.head _)
  have d1:[(t,s),(t',s')].filter (λ p=>decide (p.1≠t))=[(t',s')]:=by
   rw[qg (by exact λ z=>(gS z) rfl),rE (by exact dE tt.symm)];rfl
  have d2:[(t,s),(t',s')].filter (λ p=>decide (p.1≠t'))=[(t,s)]:=by
   rw[rE (by exact dE tt),qg (by exact λ z=>(gS z) rfl)];rfl
  have a1:([(t,s),(t',s')].any λ q=>decide (q.2=t))=decide (s'=t):=by
   simp only[List.any_cons,eY (by exact e.symm),List.any_cons,List.any_nil,Bool.or_false,Bool.false_or]
  have a2:([(t,s),(t',s')].any λ q=>decide (q.2=t'))=decide (s=t'):=by
   simp only[List.any_cons,List.any_cons,eY (show¬(t',s').2=t' from e'.symm),List.any_nil,Bool.or_false,Bool.or_false]
  by_cases c:s'=t
  ·by_cases c':s=t'
   ·subst c;subst c'
    refine Bw x tt (dz _) λ h' z x=>?_
    have e2:=one (t:=s) (s:=o) (jN _ (.tail _ (.head _))).2
    refine fZ x e2.1 (.head _) λ h' z x=>?_
    rw[e2.2] at x
    exact jx x (aY x (by rw[hm];show _=if s'≠s' then _ else if s≠s then _ else _;rw[if_neg (λ z=>z rfl),if_neg (λ z=>z rfl)];rfl))
   ·have ef:gk [(t,s),(t',s')] [(t,s),(t',s')]=some t':=by unfold gk;rw[a1,dE c];dsimp only[gk];rw[a2,eY c'];rfl
    refine fZ x ef (.tail _ (.head _)) λ h' z x=>?_
    rw[d2] at x
    refine fZ x (one e).1 (.head _) λ h' z x=>?_
    rw[(one e).2] at x
    exact jx x (aY x (by rw[hm];show _=if s'≠t then _ else if s≠t' then _ else _;rw[if_neg (λ z=>z c),if_pos c'];rfl))
  ·have ef:gk [(t,s),(t',s')] [(t,s),(t',s')]=some t:=by dsimp only[gk];rw[a1,eY c];rfl
   refine fZ x ef (.head _) λ h' z x=>?_
   rw[d1] at x
   refine fZ x (one e').1 (.head _) λ h' z x=>?_
   rw[(one e').2] at x
   exact jx x (aY x (by rw[hm];show _=if s'≠t then _ else _;rw[if_pos c];rfl))
 |_::_::_::_,_,_,_,hl,_=>exact absurd hl (by simp)
theorem xE{a o:Nat}{K:List V->H->Prop}(ha:h a=some (.list l)):∀(E acc:List (Nat×Nat)),K ((acc++E).map λ p=> .bool (decide ((p.1:Int)=(o:Int)))) h->
  dY 2 (kJ C lq) (wE C iF) (λ h'=>h' a=some (.list l)) [some (.ref a),some (.int o),z] (E.map ww) (acc.map λ p=> .bool (decide ((p.1:Int)=(o:Int)))) K h:=by
 intro xR
 induction xR with
 |nil=>
  intro acc q
  exact SU ha (by rw[eE] at q;exact q)
 |cons p E aU=>
  intro acc q
  have ih:=aU (acc++[p]) (by rw[d6];exact q)
  simp only[iD] at ih
  refine SR ha ?_;refine az rfl ?_;exact ih
theorem ox{E:List (Nat×Nat)}{Q:V->H->Prop}(ha:h a=some (.list (E.map ww)))(hn:E.length<=10)(q:Q (.bool (E.any λ p=>decide (p.1=o))) h):ah prog (n+1) .jg [.ref a,.int o] Q h:=by
 refine bJ rfl ?_;refine cA ha (be hn) ?_
 refine xE ha E [] ?_
 refine bf (be hn) λ b hb=>?_
 have rU:V.bool true∈(E.map λ p=>V.bool (decide ((p.1:Int)=(o:Int))))↔(E.any λ p=>decide (p.1=o))=true:=by
  rw[List.any_eq_true,List.mem_map]
  refine exists_congr λ p=>and_congr_right λ u0=>⟨λ e=>?_,λ e=>?_⟩
  ·injection e with e;exact dE (mC (gS e))
  ·rw[dE (show(p.1:Int)=(o:Int) from congrArg _ (gS e))]
 refine PC (aa ..) (λ v m=>by refine aG (iE m) λ p u0 ak=>?_;obtain rfl:=ak;trivial) (be hn) (λ m=>?_) (λ m=>?_)
 ·rw[rU.mp m] at q;exact bD (aA hb) q
 ·rw[Bool.eq_false_iff.mpr λ e=>m (rU.mpr e)] at q;exact bD (aA hb) q
theorem Ed{P:Nat->Nat}{K:List V->H->Prop}(hd:h d=some (.ao es)):∀(E acc:List Nat),(∀r∈E,aE es (r:Int)=some (.int (P r:Int)))->K (aB (acc++E.map P)) h->
  dY 2 (kJ C lq) (wE C fM) (λ u0=>True) [s0,some (.ref d),z] (aB E) (aB acc) K h:=by
 intro xR
 induction xR with
 |nil=>
  intro acc _ q
  exact xZ (by rw[List.map_nil,eE] at q;exact q)
 |cons r E aU=>
  intro acc b q
  have ih:=aU (acc++[P r]) (λ r m=>b r (.tail _ m)) (by rw[d6];exact q)
  simp only[bg] at ih
  refine qe ?_;refine dj hd (b r (.head _)) ?_;exact ih
theorem cB{l:List Nat}{P:Nat->Nat}{Q:V->H->Prop}(hd:h d=some (.ao es))(hl:l.length<=10)
  (hp:∀r∈l,aE es (r:Int)=some (.int (P r:Int)))(q:Q (.tup (aB (l.map P))) h):ah prog (n+1) .cM [.tup (aB l),.ref d] Q h:=by
 have hs:(aB (l.map P)).length<aZ:=by simp only[ac,dR];exact cO hl (by decide)
 refine bJ rfl ?_;refine fP (be hl) ?_
 refine Ed hd l [] hp ?_
 refine bf hs λ a ha=>?_;refine xU (aa ..) hs ?_;exact bD (aA ha) q
theorem kQ{n a b s:Nat}{k:Int}{d:Nat}{P:Nat->Nat}{Q:V->H->Prop}(hd:h d=some (.ao es))
  (hp:∀r∈[a,b,s],aE es (r:Int)=some (.int (P r:Int)))(q:Q (.tup [.int (P a),.int k,.tup [.int (P b),.int (P s)]]) h):ah prog (n+2) .n7 [.tup [.int a,.int k,.tup [.int b,.int s]],.ref d] Q h:=by
 refine bJ rfl ?_;refine az rfl ?_;refine dj hd (hp a (.head _)) ?_;refine az rfl ?_;refine az rfl ?_;refine cB (l:=[b,s]) hd (eP rfl) (λ r m=>hp r (.tail _ m)) ?_;refine bT (sm rfl) ?_;exact bD (av _) q
theorem ut{o:Op}{P:Nat->Nat}{Q:V->H->Prop}(hd:h d=some (.ao es))
  (hp:∀r∈o.e9,aE es (r:Int)=some (.int (P r:Int)))(q:Q (o.map P).v h):ah prog (n+3) .qw [o.v,.ref d] Q h:=by
 refine bJ rfl ?_
 cases o with
 |const t k=>refine az rfl ?_;refine az rfl ?_;refine dj hd (hp t (.head _)) ?_;refine az rfl ?_;refine bT (sm rfl) ?_;exact bD (av _) q
 |free t k=>refine az rfl ?_;refine az rfl ?_;refine dj hd (hp t (.head _)) ?_;refine az rfl ?_;refine bT (sm rfl) ?_;exact bD (av _) q
 |define k s=>refine az rfl ?_;refine az rfl ?_;refine az rfl ?_;refine dj hd (hp s (.head _)) ?_;refine bT (sm rfl) ?_;exact bD (av _) q
 |prim t k a b=>
  refine az rfl ?_;refine az rfl ?_;refine dj hd (hp t (.tail _ (.tail _ (.head _)))) ?_;refine az rfl ?_;refine az rfl ?_;refine cB (l:=[a,b]) hd (eP rfl) (λ r m=>hp r (kU _ m)) ?_;refine bT (sm rfl) ?_;exact bD (av _) q
 |closure t k a b=>
  refine az rfl ?_;refine az rfl ?_;refine dj hd (hp t (.tail _ (.tail _ (.head _)))) ?_;refine az rfl ?_;refine az rfl ?_;refine cB (l:=[a,b]) hd (eP rfl) (λ r m=>hp r (kU _ m)) ?_;refine bT (sm rfl) ?_;exact bD (av _) q
 |fix a b s t=>
  have m:∀r∈[a,b,s]++[b,a,t],aE es (r:Int)=some (.int (P r:Int)):=λ r k=>hp r (by
   simp only[List.cons_append,List.nil_append,List.mem_cons,List.not_mem_nil,or_false] at k
   simp only[Op.e9,Op.reads,Op.writes,List.cons_append,List.nil_append,List.mem_cons,List.not_mem_nil,or_false]
   rcases k with k|k|k|k|k|k<;>simp only[k,true_or,or_true])
  refine az rfl ?_;refine az rfl ?_;refine fP (sm rfl) ?_;refine qe ?_;refine kQ hd (λ r k=>m r (kU _ k)) ?_;refine qe ?_;refine kQ hd (λ r k=>m r (mA _ k)) ?_;refine xZ ?_
  refine bf (sm rfl) λ x hx=>?_;refine xU (aa ..) (sm rfl) ?_;refine bT (sm rfl) ?_;exact bD (aA hx) q
theorem Bx{P:Nat->Nat}{K:List V->H->Prop}(hd:h d=some (.ao es))(ha:h a=some (.list l)):∀(E acc:List Nat),(∀r∈E,aE es (r:Int)=some (.int (P r:Int)))->K (aB (acc++E.map P)) h->
  dY 2 (kJ C lq) (wE C fM) (λ h'=>h' a=some (.list l)) [s0,some (.ref d),z] (aB E) (aB acc) K h:=by
 intro xR
 induction xR with
 |nil=>
  intro acc _ q
  exact SU ha (by rw[List.map_nil,eE] at q;exact q)
 |cons r E aU=>
  intro acc b q
  have ih:=aU (acc++[P r]) (λ r m=>b r (.tail _ m)) (by rw[d6];exact q)
  simp only[bg] at ih
  refine SR ha ?_;refine dj hd (b r (.head _)) ?_;exact ih
theorem qW{l:List Nat}{P:Nat->Nat}{Q:V->H->Prop}(hd:h d=some (.ao es))(ha:h a=some (.list (aB l)))(hl:l.length<=10)
  (hp:∀r∈l,aE es (r:Int)=some (.int (P r:Int)))(q:Q (.tup (aB (l.map P))) h):ah prog (n+1) .cM [.ref a,.ref d] Q h:=by
 have hs:(aB (l.map P)).length<aZ:=by rw[ac,dR];exact cO hl (by decide)
 refine bJ rfl ?_;refine cA ha (be hl) ?_
 refine Bx hd ha l [] hp ?_
 refine bf hs λ a ha=>?_;refine xU (aa ..) hs ?_;exact bD (aA ha) q
inductive dn where
 |op (o:Op)|mv (t s:Nat)|d7 (b:Nat)|br (p b:Nat)|call (f k:Nat) (l:List Nat)|give (f:Nat) (l:List Nat)
noncomputable def dn.v(lab:Nat->Int):dn->V
 | .op o=>o.v
 | .mv t s=> .tup [.str .move,.int t,.int s]
 | .d7 b=> .tup [.str .d7,.int (lab b)]
 | .br p b=> .tup [.str .dJ,.int p,.int (lab b)]
 | .call f k l=> .tup [.str .call,.int f,.int k,.tup (aB l)]
 | .give f l=> .tup [.str .give,.int f,.tup (aB l)]
noncomputable def dn.to:dn->Option Nat
 | .d7 b=>some b
 | .br _ b=>some b
 |_=>none
noncomputable def jJ(n:Nat):List dn->List (Nat×Nat)
 |[]=>[]
 |x::r=>(match x.to with|some b=>[(n,b)]|none=>[])++jJ (n+1) r
theorem l6:∀(n:Nat) (A B:List dn),jJ n (A++B)=jJ n A++jJ (n+A.length) B
 |n,[],B=>rfl
 |n,x::A,B=>by
  show _++jJ (n+1) (A++B)=_++jJ (n+1) A++jJ (n+(A.length+1)) B
  simp only[l6 (n+1) A B,d6,show n+1+A.length=n+(A.length+1) from by exact dP (aL [_,_] (Pl (Pl X0 (Nm 1)) X1) (Pl X0 (Pl X1 (Nm 1))) rfl) (aL [_,_] (Pl X0 (Pl X1 (Nm 1))) (Pl (Pl X0 (Nm 1)) X1) rfl)]
theorem rP:∀(n:Nat) (A:List dn),(jJ n A).length<=A.length
 |_,[]=>bE _
 |n,x::A=>by
  have:=rP (n+1) A
  show(_++jJ (n+1) A).length<=A.length+1
  rw[eQ]
  cases x.to with
  |none=>show 0+_<=_;exact ai [_,_] (Pl (Nm 0) X0) (Pl X1 (Nm 1)) 1 X0 X1 rfl this
  |some b=>show 1+_<=_;exact ai [_,_] (Pl (Nm 1) X0) (Pl X1 (Nm 1)) 1 X0 X1 rfl this
noncomputable def MO(p:Nat×Nat):V:=.tup [.int p.1,.int p.2]
noncomputable abbrev dn.w(x:dn):V:=x.v λ u0=> -1
structure EA where
 em:Nat
 u:Nat
 pl:Nat
 i:Nat
 s:Nat
 j:Nat
structure Em (h₀:H) (a:EA) (C:List dn) (st:List (Nat×Nat)) (sc:Bool) (h:H):Prop where
 le:le h₀ h
 e0:h₀ a.em=none
 i0:h₀ a.i=none
 s0:h₀ a.s=none
 j0:h₀ a.j=none
 em:h a.em=some (.inst .ge [(.unit,.ref a.u),(.places,.ref a.pl),(.bv,.ref a.i),(.starts,.ref a.s),(.vt,.ref a.j),(.eA,.bool sc)])
 i:h a.i=some (.list (C.map dn.w))
 s:h a.s=some (.ao (iy st))
 j:h a.j=some (.list ((jJ 0 C).map MO))
 ij:a.i≠a.j
 n:C.length<=400
section
variable {h₀ h : H} {a : EA} {C : List dn} {st : List (Nat × Nat)} {sc : Bool}
theorem Em.ei(x:Em h₀ a C st sc h):a.em≠a.i:=λ e=>by have:=x.em;rw[e,x.i] at this;cases this
theorem Em.es(x:Em h₀ a C st sc h):a.em≠a.s:=λ e=>by have:=x.em;rw[e,x.s] at this;cases this
theorem Em.ej(x:Em h₀ a C st sc h):a.em≠a.j:=λ e=>by have:=x.em;rw[e,x.j] at this;cases this
theorem Em.is(x:Em h₀ a C st sc h):a.i≠a.s:=λ e=>by have:=x.i;rw[e,x.s] at this;cases this
theorem Em.sj(x:Em h₀ a C st sc h):a.s≠a.j:=λ e=>by have:=x.s;rw[e,x.j] at this;cases this
theorem Em.OX(x:Em h₀ a C st sc h):(C.map dn.w).length<aZ:=by rw[dR];exact cO x.n (by decide)
theorem Em.jL(x:Em h₀ a C st sc h):((jJ 0 C).map MO).length<aZ:=by rw[dR];exact cO (cV (rP ..) x.n) (by decide)
theorem Em.grow(x:Em h₀ a C st sc h)(l:Mine.le h h'):Em h₀ a C st sc h':=⟨aF x.le l,x.e0,x.i0,x.s0,x.j0,l _ _ x.em,l _ _ x.i,l _ _ x.s,l _ _ x.j,x.ij,x.n⟩
theorem Em.put(x:Em h₀ a C st sc h)(hy:y.to=none)(hn:C.length<400):Em h₀ a (C++[y]) st sc (aC h a.i (.list (C.map dn.w++[y.w]))):=
 ⟨aQ x.le x.i0,x.e0,x.i0,x.s0,x.j0,ag x.em x.ei,by rw[iD];exact aa ..,ag x.s x.is.symm,by
  simp only[l6,jJ,hy]
  show _=some (O.list ((jJ 0 C++[]).map MO))
  rw[eE];exact ag x.j x.ij.symm,x.ij,by rw[eQ];exact hn⟩
theorem Em.label(x:Em h₀ a C st sc h)(hy:y.to=some b)(hn:C.length<400):
  Em h₀ a (C++[y]) st sc (aC (aC h a.j (.list ((jJ 0 C).map MO++[MO (C.length,b)]))) a.i (.list (C.map dn.w++[y.w]))):=
 ⟨aQ (aQ x.le x.j0) x.i0,x.e0,x.i0,x.s0,x.j0,ag (ag x.em x.ej) x.ei,by simp only[iD];exact aa ..,ag (ag x.s x.sj) x.is.symm,by
  simp only[l6,jJ,hy,iD,Nat.zero_add];exact ag (aa ..) x.ij.symm,x.ij,by rw[eQ];exact hn⟩
theorem Em.start(x:Em h₀ a C st sc h):Em h₀ a C (st++[(k,C.length)]) sc (aC h a.s (.ao (iy (st++[(k,C.length)])))):=
 ⟨aQ x.le x.s0,x.e0,x.i0,x.s0,x.j0,ag x.em x.es,ag x.i x.is,aa ..,ag x.j x.sj.symm,x.ij,x.n⟩
theorem Em.Ta(x:Em h₀ a C st sc h):Em h₀ a C st b (aC h a.em (.inst .ge [(.unit,.ref a.u),(.places,.ref a.pl),(.bv,.ref a.i),(.starts,.ref a.s),(.vt,.ref a.j),(.eA,.bool b)])):=
 ⟨aQ x.le x.e0,x.e0,x.i0,x.s0,x.j0,aa ..,ag x.i x.ei.symm,ag x.s x.es.symm,ag x.j x.ej.symm,x.ij,x.n⟩
theorem vG{Q:V->H->Prop}(x:Em h₀ a C st sc h)(q:Q (.int C.length) h):ah prog (n+1) .here [.ref a.em] Q h:=by
 refine bJ rfl ?_;refine ay x.em rfl ?_;refine qi x.i x.OX ?_
 rw[dR]
 exact bD (av _) q
theorem qD{Q:V->H->Prop}(x:Em h₀ a C st sc h)(hy:y.to=none)(hn:C.length<400)(q:∀h',Em h₀ a (C++[y]) st sc h'->Q .none h'):ah prog (n+1) .emit [.ref a.em,y.w] Q h:=by
 refine bJ rfl ?_;refine ay x.em rfl ?_;refine bC x.i ?_;refine cb x.i x.OX ?_;exact dL (av _) (q _ (x.put hy hn))
theorem kx{n b:Nat}{Q:V->H->Prop}(x:Em h₀ a C st sc h)(hy:y.to=some b)(hn:C.length<400)(q:∀h',Em h₀ a (C++[y]) st sc h'->Q .none h'):ah prog (n+2) .fB [.ref a.em,y.w,.int b] Q h:=by
 refine bJ rfl ?_;refine ay x.em rfl ?_;refine bC x.j ?_;refine cU x.em rfl rfl ?_;refine vG x ?_;refine bT (sm rfl) ?_;refine cb x.j x.jL ?_;refine cU (ag x.em x.ej) rfl rfl ?_
 refine bJ rfl ?_;refine ay (ag x.em x.ej) rfl ?_;refine bC (ag x.i x.ij) ?_;refine cb (ag x.i x.ij) x.OX ?_;refine dL (av _) ?_;exact dL (av _) (q _ (x.label hy hn))
end
theorem By{K:Out->Fr->H->Prop}(hn:f≠a.i):∀(E:List (Nat×Nat)) (C:List dn) (z:Option V) (h:H),Em h₀ a C st sc h->h f=some (.list l)->C.length+E.length<=400->
  (∀h z,Em h₀ a (C++E.map λ p=> .mv p.1 p.2) st sc h->K .next [some (.ref a.em),s1,s2,s3,s4,z] h)->
  cw [5] (wB (ah prog (n+1)) n9) (λ h'=>h' f=some (.list l)) (E.map ww) [some (.ref a.em),s1,s2,s3,s4,z] K h:=by
 intro xR
 induction xR with
 |nil=>
  intro C z h x hf _ q
  exact kR hf (q h z (by rw[List.map_nil,eE];exact x))
 |cons p E aU=>
  intro C z h x hf k q
  have k':C.length+(E.length+1)<=400:=k
  refine f9 hf ?_;refine cU x.em rfl rfl ?_;refine bJ rfl ?_;refine ay x.em rfl ?_;refine bC x.i ?_;refine cb x.i x.OX ?_;refine dL (av _) ?_
  exact aU (C++[.mv p.1 p.2]) _ _ (x.put rfl (by exact ai [_,_] (Pl X0 (Nm 1)) (Nm 400) 1 (Pl X0 (Pl X1 (Nm 1))) (Nm 400) rfl k')) (ag hf hn) (by rw[eQ];show C.length+1+_<=_;exact ai [_,_] (Pl (Pl X0 (Nm 1)) X1) (Nm 400) 1 (Pl X0 (Pl X1 (Nm 1))) (Nm 400) rfl k') λ h z y=>q h z (by rw[d6] at y;exact y)
theorem j8(E:List (Nat×Nat))(o:Nat):(nq E o).length<=3:=by
 unfold nq
 split
 ·exact dz _
 ·exact eP rfl
 ·split
  ·exact eP rfl
  ·split<;>exact eP rfl
 ·exact dz _
noncomputable def bL(P:Nat->Nat)(ps l:List Nat):List (Nat×Nat):=(ps.map P).zip (l.map P)
theorem Bz{P:Nat->Nat}{ps l:List Nat}{Q:V->H->Prop}(x:Em h₀ a C st sc h)(uD:Ap h₀ a.pl d cnt es)(W3:h₀ p=some (.list (aB ps)))
  (hl:ps.length=l.length)(qs:l.length<=2)(dp:∀r∈ps,aE es (r:Int)=some (.int (P r:Int)))(dl:∀r∈l,aE es (r:Int)=some (.int (P r:Int)))(nd:(ps.map P).Nodup)(lt:∀r∈ps,P r≠cnt)(hn:C.length<=390)
  (q:∀h',Em h₀ a (C++(nq (bL P ps l) cnt).map λ p=> .mv p.1 p.2) st (sc||(nq (bL P ps l) cnt).any λ p=>decide (p.1=cnt)) h'->Q .none h'):ah prog (n+5) .moves [.ref a.em,.ref p,.tup (aB l)] Q h:=by
 have e1:(bL P ps l).map (·.1)=ps.map P:=List.map_fst_zip (by simp only[dR,dR,hl];exact bE _)
 have e2:(bL P ps l).map (·.2)=l.map P:=List.map_snd_zip (by simp only[dR,dR,hl];exact bE _)
 have e3:(bL P ps l).length<=2:=by rw[←dR (f:=(·.1)),e1,dR,hl];exact qs
 have e4:∀p∈bL P ps l,p.1≠cnt:=λ p m=>by
  have:=List.mem_map_of_mem (f:=(·.1)) m
  rw[e1] at this
  refine aG (iE this) λ r hr e=>?_
  rw[←e];exact lt r hr
 have hd:=x.le _ _ uD.d
 have hp:=x.le _ _ uD.pl
 have l3:=j8 (bL P ps l) cnt
 refine bJ rfl ?_;refine ay x.em rfl ?_;refine ay hp rfl ?_;refine qW hd (x.le _ _ W3) (by exact aS [_,_] X0 (Nm 10) 1 X0 X1 1 X1 (Nm 2) rfl (bw hl) qs) dp ?_;refine cB hd (by exact ai [_] X0 (Nm 10) 1 X0 (Nm 2) rfl qs) dl ?_;refine ay x.em rfl ?_;refine ay hp rfl ?_
 simp only[←e1,←e2]
 refine r7 (by unfold wk;rw[e1];exact nd) e3 e4 λ f hf=>?_
 have xf:=x.grow (aA (o:=.list ((nq (bL P ps l) cnt).map ww)) hf)
 have Tb:=(aj x.em hf).symm
 have rU:∀(b:Bool) h',b=(sc||(nq (bL P ps l) cnt).any λ p=>decide (p.1=cnt))->Em h₀ a C st b h'->h' f=some (.list ((nq (bL P ps l) cnt).map ww))->
   wB (ah prog (n+4)) (.cons (.cz [5] (.of (.var 4)) n9) .nil) [some (.ref a.em),some (.ref p),some (.tup (aB l)),some (.ref d),some (.ref f),none] (q5 Q) h':=by
  rintro b h' rfl y OW
  refine cA OW (be (by exact ai [_] X0 (Nm 10) 1 X0 (Nm 3) rfl l3)) ?_
  exact By (aj x.i hf).symm _ C none h' y OW (by exact aS [_,_] (Pl X0 X1) (Nm 400) 1 X0 (Nm 390) 1 X1 (Nm 3) rfl hn l3) λ h z y=>dL (av _) (q h y)
 refine ay xf.em rfl ?_;refine oX (λ b=>?_) (λ b=>?_)
 ·have b:sc=true:=by cases sc;exact kK b;rfl
  refine cm xf.em rfl (dQ rfl) ?_
  exact rU true _ (by rw[b];rfl) (xf.Ta (b:=true)) (ag (aa ..) Tb)
 ·have b:sc=false:=by cases sc;rfl;exact IJ b
  refine ay xf.em rfl ?_;refine ay (ax hp hf) rfl ?_;refine ox (aa ..) (by exact ai [_] X0 (Nm 10) 1 X0 (Nm 3) rfl l3) ?_;refine oX (λ b'=>?_) (λ b'=>?_)
  ·refine cm xf.em rfl (dQ rfl) ?_
   exact rU true _ (by rw[b,b'];rfl) (xf.Ta (b:=true)) (ag (aa ..) Tb)
  ·refine cm xf.em rfl (dQ rfl) ?_
   exact rU false _ (by rw[b,b'];rfl) (xf.Ta (b:=false)) (ag (aa ..) Tb)
theorem BC{P:Nat->Nat}{K:Out->Fr->H->Prop}(hd:h₀ d=some (.ao es))(ho:h₀ yo=some (.list l)):∀(os:List Op) (C:List dn) (z:Option V) (h:H),Em h₀ a C st sc h->C.length+os.length<=390->(∀o∈os,∀r∈o.e9,aE es (r:Int)=some (.int (P r:Int)))->
  (∀h z,Em h₀ a (C++os.map λ o=> .op (o.map P)) st sc h->K .next [some (.ref a.em),s1,s2,some (.ref d),z,s5] h)->
  cw [4] (wB (ah prog (n+3)) kO) (λ h'=>h' yo=some (.list l)) (os.map Op.v) [some (.ref a.em),s1,s2,some (.ref d),z,s5] K h:=by
 intro xR
 induction xR with
 |nil=>
  intro C z h x _ _ q
  exact kR (x.le _ _ ho) (q h z (by rw[List.map_nil,eE];exact x))
 |cons o os aU=>
  intro C z h x k b q
  have k':C.length+(os.length+1)<=390:=k
  refine f9 (x.le _ _ ho) ?_;refine cU x.em rfl rfl ?_;refine ut (x.le _ _ hd) (b o (.head _)) ?_;refine qD (y:=.op (o.map P)) x rfl (by exact ai [_,_] (Pl X0 (Nm 1)) (Nm 400) 1 (Pl X0 (Pl X1 (Nm 1))) (Nm 390) rfl k') λ h' y=>?_
  exact aU _ _ _ y (by rw[eQ];show C.length+1+_<=_;exact ai [_,_] (Pl (Pl X0 (Nm 1)) X1) (Nm 390) 1 (Pl X0 (Pl X1 (Nm 1))) (Nm 390) rfl k') (λ o m=>b o (.tail _ m)) λ h z y=>q h z (by rw[d6] at y;exact y)
noncomputable def cL(U:Un)(P:Nat->Nat)(cnt:Nat)(later:Option Nat):End->List dn
 | .goto j l=>(nq (bL P (U.par j) l) cnt).map (λ p=> .mv p.1 p.2)++(if later=some j then[] else[.d7 j])
 | .branch c t e=> .br (P c) e::(if later=some t then[] else[.d7 t])
 | .call f k l=>[.call (P f) (P k) (l.map P)]
 | .give f l=>[.give (P f) (l.map P)]
noncomputable def wC(U:Un)(P:Nat->Nat)(cnt:Nat):End->Bool
 | .goto j l=>(nq (bL P (U.par j) l) cnt).any λ p=>decide (p.1=cnt)
 |_=>false
noncomputable def jW(U:Un)(P:Nat->Nat)(cnt:Nat)(b:Block)(later:Option Nat):List dn:=b.ops.map (λ o=> .op (o.map P))++cL U P cnt later b.end_
structure Sl (U:Un) (es:List (Int×V)) (P:Nat->Nat) (cnt:Nat):Prop where
 op:∀(i:Nat) (b:Block),U.blocks[i]?=some b->∀o∈b.ops,∀r∈o.e9,aE es (r:Int)=some (.int (P r:Int))
 en:∀(i:Nat) (b:Block),U.blocks[i]?=some b->∀r∈b.end_.reads,aE es (r:Int)=some (.int (P r:Int))
 par:∀(i:Nat) (b:Block),U.blocks[i]?=some b->∀r∈b.params,aE es (r:Int)=some (.int (P r:Int))/\P r≠cnt
 nd:∀(i:Nat) (b:Block),U.blocks[i]?=some b->(b.params.map P).Nodup
 to:∀(i:Nat) (b:Block),U.blocks[i]?=some b->∀j l,b.end_=.goto j l->l.length<=2/\(U.par j).length=l.length
theorem FU(h:Ac true b=true):b=false:=by cases b;rfl;exact kK h
theorem FV(h:Ac true b=false):b=true:=by cases b;exact IJ h;rfl
theorem r8{P:Nat->Nat}{Q:V->H->Prop}(S:Sane U)(X:Em h₀ a C st sc h)(hu:bF h₀ x U)(au:a.u=x.u)(uD:Ap h₀ a.pl d cnt es)
  (e1:x.bl[k]?=some y)(e2:U.blocks[k]?=some b)(p:Sl U es P cnt)(hk:k∉st.map (·.1))(W4:st.length<=10)(hn:C.length<=370)
  (q:∀h',Em h₀ a (C++jW U P cnt b later) (st++[(k,C.length)]) (sc||wC U P cnt b.end_) h'->Q .none h'):ah prog (n+6) .eh [.ref a.em,.ref y.b,qk later] Q h:=by
 have Jg:=hu.gY k y b e1 e2
 have s:=S.gY k b e2
 have ol:=s.oF
 have Kb:=Jg.le X.le
 have W5:dT (iy st) (k:Int) (.int (C.length:Int))=iy (st++[(k,C.length)]):=by
  unfold dT
  rw[if_neg λ h=>?_]
  ·unfold iy;simp only[iD];rfl
  ·refine aG (List.any_eq_true.mp h) λ p hp e=>?_
   refine aG (iE hp) λ p' S9 ak=>?_;obtain rfl:=ak
   exact hk (List.mem_map.mpr ⟨p',S9,mC (gS e)⟩)
 refine bJ rfl ?_;refine cU X.em rfl rfl ?_;refine vG X ?_;refine ay X.em rfl ?_;refine ay Kb.b rfl ?_;refine xT X.s (by rw[oi];exact cO W4 (by decide)) ?_
 simp only[W5]
 have aO:=X.start (k:=k)
 have LY:=Jg.le aO.le
 refine ay aO.em rfl ?_;refine ay (aO.le _ _ uD.pl) rfl ?_;refine ay LY.b rfl ?_;refine cA LY.o (be s.oF) ?_
 refine BC (s1:=some (.ref y.b)) (s2:=some (qk later)) (s5:=none) uD.d Jg.o b.ops C none _ aO (by exact aS [_,_] (Pl X0 X1) (Nm 390) 1 X0 (Nm 370) 1 X1 (Nm 10) rfl hn ol) (p.op k b e2) λ cN z aM=>?_
 have Dz:(C++b.ops.map λ o=>dn.op (o.map P)).length<=385:=by rw[eQ,dR];exact aS [_,_] (Pl X0 X1) (Nm 385) 1 X0 (Nm 370) 1 X1 (Nm 10) rfl hn ol
 have hd:=aM.le _ _ uD.d
 have q8:=(Jg.le aM.le).b
 have en:=p.en k b e2
 have to:=p.to k b e2
 have W6:=s.to
 have q':∀h',Em h₀ a ((C++b.ops.map λ o=>dn.op (o.map P))++cL U P cnt later b.end_) (st++[(k,C.length)]) (sc||wC U P cnt b.end_) h'->Q .none h':=λ h' x=>q h' (by rw[d6] at x;exact x)
 clear q
 generalize C++b.ops.map (λ o=>dn.op (o.map P))=Ni at*
 have AD:=s.kZ
 cases he:b.end_ with
 |call f g l=>
  rw[he] at q8 q' en AD
  have AD:l.length+1+1<=10:=AD
  refine ay q8 rfl ?_;refine az rfl ?_;refine cU aM.em rfl rfl ?_;refine az rfl ?_;refine dj hd (en f (.head _)) ?_;refine az rfl ?_;refine dj hd (en g (.tail _ (.head _))) ?_;refine az rfl ?_
  refine cB hd (by exact ai [_] X0 (Nm 10) 1 (Pl (Pl X0 (Nm 1)) (Nm 1)) (Nm 10) rfl AD) (λ r m=>en r (.tail _ (.tail _ m))) ?_;refine bT (sm rfl) ?_;refine qD (y:=.call (P f) (P g) (l.map P)) aM rfl (by exact ai [_] (Pl X0 (Nm 1)) (Nm 400) 1 X0 (Nm 385) rfl Dz) λ h' x=>?_
  exact dL (av _) (q' h' (by show Em _ _ _ _ (sc||false) _;rw[Bool.or_false];exact x))
 |give f l=>
  rw[he] at q8 q' en AD
  have AD:l.length+1<=10:=AD
  refine ay q8 rfl ?_;refine az rfl ?_;refine az rfl ?_;refine az rfl ?_;refine cU aM.em rfl rfl ?_;refine az rfl ?_;refine dj hd (en f (.head _)) ?_;refine az rfl ?_
  refine cB hd (by exact ai [_] X0 (Nm 10) 1 (Pl X0 (Nm 1)) (Nm 10) rfl AD) (λ r m=>en r (.tail _ m)) ?_;refine bT (sm rfl) ?_;refine qD (y:=.give (P f) (l.map P)) aM rfl (by exact ai [_] (Pl X0 (Nm 1)) (Nm 400) 1 X0 (Nm 385) rfl Dz) λ h' x=>?_
  exact dL (av _) (q' h' (by show Em _ _ _ _ (sc||false) _;rw[Bool.or_false];exact x))
 |branch c t e=>
  rw[he] at q8 q' en
  refine ay q8 rfl ?_;refine az rfl ?_;refine az rfl ?_;refine az rfl ?_;refine cU aM.em rfl rfl ?_;refine az rfl ?_;refine dj hd (en c (.head _)) ?_;refine bT (sm rfl) ?_;refine az rfl ?_
  refine kx (y:=.br (P c) e) aM rfl (by exact ai [_] (Pl X0 (Nm 1)) (Nm 400) 1 X0 (Nm 385) rfl Dz) λ fv bG=>?_
  have Nj:(Ni++[dn.br (P c) e]).length<400:=by rw[eQ];show _+1<_;exact ai [_] (Pl (Pl X0 (Nm 1)) (Nm 1)) (Nm 400) 1 X0 (Nm 385) rfl Dz
  have ends:∀h' D,Em h₀ a D (st++[(k,C.length)]) sc h'->D=Ni++cL U P cnt later (.branch c t e)->eO .next Q h':=λ h' D x z=>dL (av _) (q' h' (by rw[←z];show Em _ _ _ _ (sc||false) _;rw[Bool.or_false];exact x))
  have OY:later≠some t->ah prog (n+5) .fB [.ref a.em,(dn.d7 t).w,.int t] (λ v h=>oL v (eO .next Q h)) fv:=λ z=>by
   refine kx (y:=.d7 t) bG rfl Nj λ h' x=>?_
   exact ends h' _ x (by rw[cL,if_neg z,d6];rfl)
  cases hl:later with
  |none=>refine az rfl ?_;refine cU bG.em rfl rfl ?_;refine bT (sm rfl) ?_;refine az rfl ?_;exact OY (by rw[hl];exact nofun)
  |some v=>
   refine az rfl ?_;refine oX (λ z=>?_) (λ z=>?_)
   ·have z:=of_decide_eq_false (FU z)
    refine cU bG.em rfl rfl ?_;refine bT (sm rfl) ?_;refine az rfl ?_;exact OY (by rw[hl];intro w;cases w;exact z rfl)
   ·have z:t=v:=mC (gS (FV z))
    exact ends fv _ bG (by rw[cL,hl,z,if_pos rfl])
 |goto j l=>
  rw[he] at q8 q' en
  refine bV (to j l he) λ l2 pl=>?_
  have hj:=W6 j (by rw[he];exact .head _)
  refine nQ (hu.at_ hj) λ yj bj j1 j2 Kj=>?_
  have pe:=Un.qo j2
  have dM:=hu.le aM.le
  have VL:=dM.u
  simp only[←au] at VL
  refine ay q8 rfl ?_;refine az rfl ?_;refine az rfl ?_;refine cU aM.em rfl rfl ?_;refine ay aM.em rfl ?_;refine ay VL rfl ?_;refine az rfl ?_;refine cQ dM.bs (xM j1) ?_;refine ay (Kj.le aM.le).b rfl ?_;refine az rfl ?_
  refine Bz aM uD (by rw[pe] at pl⊢;exact Kj.p) pl l2 (by rw[pe];exact λ r m=>(p.par j bj j2 r m).1) en (by rw[pe];exact p.nd j bj j2) (by rw[pe];exact λ r m=>(p.par j bj j2 r m).2) (by exact ai [_] X0 (Nm 390) 1 X0 (Nm 385) rfl Dz) λ fv bG=>?_
  have ml:=j8 (bL P (U.par j) l) cnt
  have Nj:(Ni++(nq (bL P (U.par j) l) cnt).map λ p=>dn.mv p.1 p.2).length<400:=by rw[eQ,dR];exact aS [_,_] (Pl (Pl X0 X1) (Nm 1)) (Nm 400) 1 X0 (Nm 385) 1 X1 (Nm 3) rfl Dz ml
  have OY:later≠some j->ah prog (n+5) .fB [.ref a.em,(dn.d7 j).w,.int j] (λ v h=>oL v (eO .next Q h)) fv:=λ z=>by
   refine kx (y:=.d7 j) bG rfl Nj λ h' x=>?_
   exact dL (av _) (q' h' (by rw[cL,if_neg z,←d6];exact x))
  cases hl:later with
  |none=>refine az rfl ?_;refine cU bG.em rfl rfl ?_;refine bT (sm rfl) ?_;refine az rfl ?_;exact OY (by rw[hl];exact nofun)
  |some v=>
   refine az rfl ?_;refine oX (λ z=>?_) (λ z=>?_)
   ·have z:=of_decide_eq_false (FU z)
    refine cU bG.em rfl rfl ?_;refine bT (sm rfl) ?_;refine az rfl ?_;exact OY (by rw[hl];intro w;cases w;exact z rfl)
   ·have z:j=v:=mC (gS (FV z))
    exact dL (av _) (q' fv (by rw[cL,hl,z,if_pos rfl,eE];rw[z] at bG;exact bG))
noncomputable def CL(M:List Nat):List (Int×V):=M.map λ k:Nat=>((k:Int),V.bool true)
theorem pB(M:List Nat)(o:Nat):(aE (CL M) (o:Int)).isSome=M.contains o:=by
 rw[Bool.eq_iff_iff,g7,List.contains_iff_mem]
 unfold CL
 rw[List.map_map,List.mem_map]
 exact⟨λ hP=>by refine aG hP λ x hx e=>?_;cases mC e;exact hx,λ h=>⟨o,h,rfl⟩⟩
theorem JA(M:List Nat)(o:Nat):dT (CL M) (o:Int) (.bool true)=CL (if M.contains o then M else M++[o]):=by
 unfold dT
 rw[show((CL M).any λ kv=>decide (kv.1=(o:Int)))=M.contains o from by
  rw[Bool.eq_iff_iff,List.any_eq_true,List.contains_iff_mem]
  unfold CL
  exact⟨λ hP=>by refine aG hP λ x hx e=>?_;refine aG (iE hx) λ k hk ak=>?_;obtain rfl:=ak;cases mC (gS e);exact hk,λ h=>⟨_,List.mem_map.mpr ⟨o,h,rfl⟩,dE rfl⟩⟩]
 cases M.contains o with
 |true=>
  rw[if_pos rfl,if_pos rfl]
  unfold CL
  rw[List.map_map]
  apply List.map_congr_left
  intro q _
  by_cases e:(q:Int)=o<;>simp[e]
 |false=>
  rw[if_neg kX,if_neg kX]
  unfold CL
  rw[iD];rfl
theorem BD{K:Out->Fr->H->Prop}(ha:h a=some (.list l))(hm:h m=some (.ao (CL M))):∀(L:List Nat) (z:Option V),(L.find? (λ o=>!M.contains o)=none->∀z,K .next [some (.ref a),some (.ref m),z] h)->
  (∀o fr,L.find? (λ o=>!M.contains o)=some o->K (.ret (.int o)) fr h)->
  cw [2] (wB C jz) (λ h'=>h' a=some (.list l)) (aB L) [some (.ref a),some (.ref m),z] K h:=by
 intro xR
 induction xR with
 |nil=>
  intro z q _
  exact kR ha (q rfl z)
 |cons o L aU=>
  intro z q u
  refine f9 ha ?_;refine M8 hm ?_;refine oX (λ b=>?_) (λ b=>?_)
  ·rw[pB] at b
   exact u o _ (List.find?_cons_of_pos b)
  ·rw[pB] at b
   rw[List.find?_cons_of_neg (by rw[b];exact kX)] at q u
   exact aU _ q u
theorem qX{Q:V->H->Prop}(ha:h a=some (.list (aB L)))(hm:h m=some (.ao (CL M)))(hL:(aB L).length<aZ)(q:Q (qk (L.find? λ o=>!M.contains o)) h):ah prog (n+1) .lY [.ref a,.ref m] Q h:=by
 refine bJ rfl ?_;refine cA ha hL ?_
 exact BD ha hm L none (λ e z=>bD (av _) (by rw[e] at q;exact q)) λ o fr e=>bD (av _) (by rw[e] at q;exact q)
structure Lay (h₀:H) (m f w:Nat) (M F W:List Nat) (h:H):Prop where
 le:le h₀ h
 m0:h₀ m=none
 f0:h₀ f=none
 w0:h₀ w=none
 hm:h m=some (.ao (CL M))
 hf:h f=some (.list (aB F))
 hw:h w=some (.list (aB W))
 fw:f≠w
theorem Lay.mf(x:Lay h₀ m f w M F W h):m≠f:=λ e=>by have:=x.hm;rw[e,x.hf] at this;cases this
theorem Lay.mw(x:Lay h₀ m f w M F W h):m≠w:=λ e=>by have:=x.hm;rw[e,x.hw] at this;cases this
theorem Lay.grow(x:Lay h₀ m f w M F W h)(l:Mine.le h h'):Lay h₀ m f w M F W h':=⟨aF x.le l,x.m0,x.f0,x.w0,l _ _ x.hm,l _ _ x.hf,l _ _ x.hw,x.fw⟩
theorem Lay.sN(x:Lay h₀ m f w M F W h):Lay h₀ m f w M' F W (aC h m (.ao (CL M'))):=⟨aQ x.le x.m0,x.m0,x.f0,x.w0,aa ..,ag x.hf x.mf.symm,ag x.hw x.mw.symm,x.fw⟩
theorem Lay.UL(x:Lay h₀ m f w M F W h):Lay h₀ m f w M F' W (aC h f (.list (aB F'))):=⟨aQ x.le x.f0,x.m0,x.f0,x.w0,ag x.hm x.mf,aa ..,ag x.hw x.fw.symm,x.fw⟩
theorem Lay.PO(x:Lay h₀ m f w M F W h):Lay h₀ m f w M F W' (aC h w (.list (aB W'))):=⟨aQ x.le x.w0,x.m0,x.f0,x.w0,ag x.hm x.mw,ag x.hf x.fw,aa ..,x.fw⟩
noncomputable def Jh(M:List Nat)(o:Nat):List Nat:=if M.contains o then M else M++[o]
noncomputable def wm(vn:Option Nat)(M W:List Nat)(o:Nat):List Nat:=if M.contains o then W else if vn=some o then W else W++[o]
noncomputable def DA(vn:Option Nat):List Nat->List Nat->List Nat->List Nat×List Nat
 |[],M,W=>(M,W)
 |o::L,M,W=>DA vn L (Jh M o) (wm vn M W o)
theorem zP(M:List Nat)(o:Nat):(Jh M o).length<=M.length+1:=by
 unfold Jh;split
 ·exact Nat.le_succ _
 ·rw[eQ];exact bE _
theorem zQ(vn:Option Nat)(M W:List Nat)(o:Nat):(wm vn M W o).length<=W.length+1:=by
 unfold wm;split
 ·exact Nat.le_succ _
 ·split
  ·exact Nat.le_succ _
  ·rw[eQ];exact bE _
theorem Ee{K:Out->Fr->H->Prop}(hn:a≠m/\a≠w):∀(L M W:List Nat) (z:Option V) (h:H),Lay h₀ m f w M F W h->h a=some (.list l)->M.length+L.length<=200->W.length+L.length<=200->
  (∀h z,Lay h₀ m f w (DA vn L M W).1 F (DA vn L M W).2 h->K .next [some (.ref u),some (.ref m),some (.ref f),some (.ref w),some (qk vn),some (.ref a),z] h)->
  cw [6] (wB C iW) (λ h'=>h' a=some (.list l)) (aB L) [some (.ref u),some (.ref m),some (.ref f),some (.ref w),some (qk vn),some (.ref a),z] K h:=by
 intro xR
 induction xR with
 |nil=>
  intro M W z h x ha _ _ q
  exact kR ha (q h z x)
 |cons o L aU=>
  intro M W z h x ha k1 k2 q
  have VM:M.length+(L.length+1)<=200:=k1
  have VN:W.length+(L.length+1)<=200:=k2
  have hm:=zP M o
  have hw:=zQ vn M W o
  have aY:∀h',Lay h₀ m f w M F (wm vn M W o) h'->h' a=some (.list l)->
    wB C (.cons (.fu (.var 1) (.var 6) (.bool true)) .nil) [some (.ref u),some (.ref m),some (.ref f),some (.ref w),some (qk vn),some (.ref a),some (.int o)] (λ oo fr h'=>oO oo (cw [6] (wB C iW) (λ h'=>h' a=some (.list l)) (aB L) fr K h') (λ r=>K (.ret r) fr h')) h':=λ h' y Sm=>by
   refine xT y.hm (by unfold CL;rw[dR];unfold aZ;exact ai [_,_] (Pl X0 (Nm 1)) (Nm 1000000) 1 (Pl X0 (Pl X1 (Nm 1))) (Nm 200) rfl VM) ?_
   rw[JA]
   exact aU (Jh M o) _ _ _ y.sN (ag Sm hn.1) (by exact aS [_,_,_] (Pl X0 X1) (Nm 200) 1 (Pl X2 (Pl X1 (Nm 1))) (Nm 200) 1 X0 (Pl X2 (Nm 1)) rfl VM hm) (by exact aS [_,_,_] (Pl X0 X1) (Nm 200) 1 (Pl X2 (Pl X1 (Nm 1))) (Nm 200) 1 X0 (Pl X2 (Nm 1)) rfl VN hw) q
  have Sn:wm vn M W o=W++[o]->CK .append [.ref w,.int o] (λ v h=>oL v (wB C (.cons (.fu (.var 1) (.var 6) (.bool true)) .nil) [some (.ref u),some (.ref m),some (.ref f),some (.ref w),some (qk vn),some (.ref a),some (.int o)] (λ oo fr h'=>oO oo (cw [6] (wB C iW) (λ h'=>h' a=some (.list l)) (aB L) fr K h') (λ r=>K (.ret r) fr h')) h)) h:=λ e=>by
   refine cb x.hw (by rw[ac];unfold aZ;exact ai [_,_] (Pl X0 (Nm 1)) (Nm 1000000) 1 (Pl X0 (Pl X1 (Nm 1))) (Nm 200) rfl VN) ?_
   have y:=x.PO (W':=W++[o])
   rw[bg] at y
   exact aY _ (by simp only[e];exact y) (ag ha hn.2)
  refine f9 ha ?_;refine M8 x.hm ?_;refine oX (λ b=>?_) (λ b=>?_)
  ·rw[pB] at b
   have b:M.contains o=false:=by cases e:M.contains o;rfl;rw[e] at b;exact kK b
   cases PP:vn with
   |none=>
    rw[PP] at Sn
    exact bC x.hw (Sn (by unfold wm;rw[b];rfl))
   |some t=>
    rw[PP] at Sn aY
    refine oX (λ c=>?_) (λ c=>?_)
    ·have c:=of_decide_eq_false (FU c)
     exact bC x.hw (Sn (by unfold wm;rw[b,if_neg kX,if_neg λ e=>c (by cases e;rfl)]))
    ·have c:o=t:=mC (gS (FV c))
     exact aY _ (by unfold wm;rw[b,if_neg kX,c,if_pos rfl];exact x) ha
  ·rw[pB] at b
   have b:M.contains o=true:=by cases e:M.contains o;rw[e] at b;exact IJ b;rfl
   exact aY _ (by unfold wm;rw[b,if_pos rfl];exact x) ha
theorem Ha{n k v m f w:Nat}{K:Out->Fr->H->Prop}(X:Lay h₀ m f w M F W h)(hu:bF h₀ x U)(hv:U.blocks[v]?=some b)(kM:M.length<=100)(kF:F.length<=100)(kW:W.length<=100)
  (q:∀h z z',Lay h₀ m f w (DA (b.end_.blocks.find? λ o=>!M.contains o) b.end_.blocks M W).1 (F++[v]) (DA (b.end_.blocks.find? λ o=>!M.contains o) b.end_.blocks M W).2 h->
   cj (wE (ah prog (n+2)) eB) (wB (ah prog (n+2)) eC) k [some (.ref x.u),some (.ref m),some (.ref f),some (.ref w),some (qk (b.end_.blocks.find? λ o=>!M.contains o)),z,z'] K h):
  cj (wE (ah prog (n+2)) eB) (wB (ah prog (n+2)) eC) (k+1) [some (.ref x.u),some (.ref m),some (.ref f),some (.ref w),some (.int v),z,z'] K h:=by
 have bl:=b.end_.nP
 refine nQ (hu.at_ (fQ hv).1) λ y b' e1 e2 Kb=>?_
 rw[hv] at e2;obtain rfl:=c8 e2
 have aO:=X.UL (F':=F++[v])
 simp only[bg] at aO
 have lC:=hu.le aO.le
 refine kB ?_;refine bC X.hf ?_;refine cb X.hf (by rw[ac];unfold aZ;exact ai [_] (Pl X0 (Nm 1)) (Nm 1000000) 1 X0 (Nm 100) rfl kF) ?_;refine ay lC.u rfl ?_;refine cQ lC.bs (xM e1) ?_;refine ay (Kb.le aO.le).b rfl ?_;refine gR λ a ha=>?_
 have aM:=aO.grow (aA (o:=.list (aB b.end_.blocks)) ha)
 have hs:(aB b.end_.blocks).length<aZ:=by rw[ac];unfold aZ;exact ai [_] (Pl X0 (Nm 1)) (Nm 1000000) 1 X0 (Nm 2) rfl bl
 refine qX (aa ..) aM.hm hs ?_;refine cA (aa ..) hs ?_
 exact Ee ⟨(aj aO.hm ha).symm,(aj aO.hw ha).symm⟩ b.end_.blocks M W z' _ aM (aa ..) (by exact aS [_,_] (Pl X0 X1) (Nm 200) 1 X0 (Nm 100) 1 X1 (Nm 2) rfl kM bl) (by exact aS [_,_] (Pl X0 X1) (Nm 200) 1 X0 (Nm 100) 1 X1 (Nm 2) rfl kW bl) λ h z y=>q h _ z y
theorem lS{K:Out->Fr->H->Prop}(q:K .next [s0,s1,s2,s3,some .none,z,z'] h):cj (wE C eB) (wB C eC) (k+1) [s0,s1,s2,s3,some .none,z,z'] K h:=by
 refine kB ?_;exact q
theorem o5{n k v u m f w:Nat}{K:Out->Fr->H->Prop}(X:Lay h₀ m f w M F (W++[v]) h)(kW:W.length<=100)
  (q:∀h,Lay h₀ m f w M F W h->cj (wE (ah prog (n+2)) eB) (wB (ah prog (n+2)) eC) 10 [some (.ref u),some (.ref m),some (.ref f),some (.ref w),some (.int v),z,z'] (λ o fr h=>oO o (oO .next (cj (wE (ah prog (n+2)) fo) (wB (ah prog (n+2)) fq) k fr K h) λ r=>K (.ret r) fr h) λ r=>oO (.ret r) (cj (wE (ah prog (n+2)) fo) (wB (ah prog (n+2)) fq) k fr K h) λ r=>K (.ret r) fr h) h):
  cj (wE (ah prog (n+2)) fo) (wB (ah prog (n+2)) fq) (k+1) [some (.ref u),some (.ref m),some (.ref f),some (.ref w),s,z,z'] K h:=by
 have e:=X.hw
 rw[bg] at e
 refine kB ?_;refine nX e ?_;refine wj (by cases W<;>rfl) ?_;refine bC e ?_;refine PE e (by rw[ac];unfold aZ;exact ai [_] (Pl (Pl X0 (Nm 1)) (Nm 1)) (Nm 1000000) 1 X0 (Nm 100) rfl kW) ?_;refine nY 10 ?_
 exact q _ (X.PO (W':=W))
theorem wQ{K:Out->Fr->H->Prop}(X:Lay h₀ m f w M F [] h)(q:K .next [some (.ref u),some (.ref m),some (.ref f),some (.ref w),s,z,z'] h):
  cj (wE C fo) (wB C fq) (k+1) [some (.ref u),some (.ref m),some (.ref f),some (.ref w),s,z,z'] K h:=by
 refine kB ?_;refine nX X.hw ?_;exact q
theorem jP{n k v m f w:Nat}{K:Out->Fr->H->Prop}(hu:bF h₀ x U)(hv:U.blocks[v]?=some b)(e:b.end_.blocks=L)(hn:(L.find? λ o=>!M.contains o)=vn)(hl:DA vn L M W=(M',W'))(k3:Nat.ble M.length 100=true/\Nat.ble F.length 100=true/\Nat.ble W.length 100=true)
  (q:∀h z z',Lay h₀ m f w M' (F++[v]) W' h->cj (wE (ah prog (n+2)) eB) (wB (ah prog (n+2)) eC) k [some (.ref x.u),some (.ref m),some (.ref f),some (.ref w),some (qk vn),z,z'] K h)(X:Lay h₀ m f w M F W h):
  cj (wE (ah prog (n+2)) eB) (wB (ah prog (n+2)) eC) (k+1) [some (.ref x.u),some (.ref m),some (.ref f),some (.ref w),some (.int v),z,z'] K h:=
 Ha X hu hv (eP k3.1) (eP k3.2.1) (eP k3.2.2) λ h z z' y=>by
  rw[e,hn,hl] at y
  rw[e,hn]
  exact q h z z' y
inductive Ord:List Block->List Nat->Prop where
 |one {a:Block} (ea:a.end_.blocks=[]):Ord [a] [0]
 |join {a b c d:Block} (ea:a.end_.blocks=[1,2]) (eb:b.end_.blocks=[3]) (ec:c.end_.blocks=[3]) (ed:d.end_.blocks=[]):Ord [a,b,c,d] [0,1,3,2]
 |loop {a b c d:Block} (ea:a.end_.blocks=[1]) (eb:b.end_.blocks=[2,3]) (ec:c.end_.blocks=[1]) (ed:d.end_.blocks=[]):Ord [a,b,c,d] [0,1,2,3]
theorem Ef{K:Out->Fr->H->Prop}(hu:bF h₀ x U)(S:Ord U.blocks o)(X:Lay h₀ m f w [0] [] [0] h)
  (q:∀M h s z z',Lay h₀ m f w M o [] h->K .next [some (.ref x.u),some (.ref m),some (.ref f),some (.ref w),s,z,z'] h):
  cj (wE (ah prog (n+2)) fo) (wB (ah prog (n+2)) fq) (k+5) [some (.ref x.u),some (.ref m),some (.ref f),some (.ref w),s,z,z'] K h:=by
 generalize eU:U.blocks=bs at S
 have at_:∀{i:Nat} {b:Block},bs[i]?=some b->U.blocks[i]?=some b:=λ{i b} e=>by rw[eU];exact e
 cases S with
 |one ea=>
  refine o5 (W:=[]) X (dz _) λ h X=>?_
  refine jP (v:=0) hu (at_ rfl) ea rfl rfl ⟨rfl,rfl,rfl⟩ (λ h z z' X=>?_) X
  refine lS ?_;refine wQ X ?_;exact q _ _ _ _ _ X
 |join ea eb ec ed=>
  refine o5 (W:=[]) X (dz _) λ h X=>?_
  refine jP (v:=0) hu (at_ rfl) ea rfl rfl ⟨rfl,rfl,rfl⟩ (λ h z z' X=>?_) X
  refine jP (v:=1) hu (at_ rfl) eb rfl rfl ⟨rfl,rfl,rfl⟩ (λ h z z' X=>?_) X
  refine jP (v:=3) hu (at_ rfl) ed rfl rfl ⟨rfl,rfl,rfl⟩ (λ h z z' X=>?_) X
  refine lS ?_;refine o5 (W:=[]) X (dz _) λ h X=>?_
  refine jP (v:=2) hu (at_ rfl) ec rfl rfl ⟨rfl,rfl,rfl⟩ (λ h z z' X=>?_) X
  refine lS ?_;refine wQ X ?_;exact q _ _ _ _ _ X
 |loop ea eb ec ed=>
  refine o5 (W:=[]) X (dz _) λ h X=>?_
  refine jP (v:=0) hu (at_ rfl) ea rfl rfl ⟨rfl,rfl,rfl⟩ (λ h z z' X=>?_) X
  refine jP (v:=1) hu (at_ rfl) eb rfl rfl ⟨rfl,rfl,rfl⟩ (λ h z z' X=>?_) X
  refine jP (v:=2) hu (at_ rfl) ec rfl rfl ⟨rfl,rfl,rfl⟩ (λ h z z' X=>?_) X
  refine lS ?_;refine o5 (W:=[]) X (dz _) λ h X=>?_
  refine jP (v:=3) hu (at_ rfl) ed rfl rfl ⟨rfl,rfl,rfl⟩ (λ h z z' X=>?_) X
  refine lS ?_;refine wQ X ?_;exact q _ _ _ _ _ X
theorem zR{Q:V->H->Prop}(hu:bF h x U)(S:Ord U.blocks o)(q:∀a,h a=none->∀h',le h h'->h' a=some (.list (aB o))->Q (.ref a) h'):ah prog (n+3) .AH [.ref x.u] Q h:=by
 refine bJ rfl ?_;refine cR λ m hm=>?_;refine bf (sm rfl) λ f hf=>?_;refine bf (sm rfl) λ w hw=>?_;refine nY 10 ?_
 have f0:=aD hf
 have w0:=aD hw
 have w1:=aD w0.2
 exact Ef hu S ⟨aX (aX (aA hm) hf) hw,hm,f0.2,w1.2,ax (ax (aa ..) hf) hw,ax (aa ..) hw,aa ..,w0.1.symm⟩ λ M h' s z z' X=>bD (av _) (q f f0.2 h' X.le X.hf)
theorem C2{α:Type}(A:List α)(x:α)(B:List α):(A++x::B)[A.length]?=some x:=by
 rw[wf (bE _),Nat.sub_self];rfl
theorem JB{α:Type}(A:List α)(x y:α)(B:List α):(A++x::B).set A.length y=A++y::B:=by
 rw[List.set_append_right _ _ (bE _),Nat.sub_self];rfl
theorem tc{n:Nat}(e:l[n]?=some v):jH l (n:Int)=some v:=(if_pos (g9 n)).trans e
theorem dn.NR{x:dn}(h:x.to=none)(l l':Nat->Int):x.v l=x.v l':=by cases x<;>first|rfl|cases h
theorem Hb{a:EA}{lab:Nat->Int}{K:Out->Fr->H->Prop}(hs:f≠s/\f≠a.em/\f≠j)(ef:eM fi .starts=some (.ref s)):∀(B A:List dn) (z z':Option V) (h:H),(∀x∈B,∀b,x.to=some b->aE es (b:Int)=some (.int (lab b)))->A.length+B.length<=400->
  h a.em=some (.inst .ge fi)->h s=some (.ao es)->h j=some (.list lj)->h f=some (.list (A.map (dn.v lab)++B.map dn.w))->
  (∀h' z z',(∀b,b≠f->h' b=h b)->h' f=some (.list ((A++B).map (dn.v lab)))->K .next [some (.ref a.em),some (.ref f),z,z'] h')->
  cw [2,3] (wB (ah prog n) ji) (λ h'=>h' j=some (.list lj)) ((jJ A.length B).map MO) [some (.ref a.em),some (.ref f),z,z'] K h:=by
 intro xR
 induction xR with
 |nil=>
  intro A z z' h _ _ he hd hj hf q
  exact kR hj (q h z z' (λ u0 u0=>rfl) (by rw[eE];rw[List.map_nil,eE] at hf;exact hf))
 |cons x B aU=>
  intro A z z' h hl k he hd hj hf q
  have k':A.length+(B.length+1)<=400:=k
  have al:(A++[x]).length=A.length+1:=by rw[eQ];rfl
  have VO:∀y:V,A.map (dn.v lab)++y::B.map dn.w=(A.map (dn.v lab)++[y])++B.map dn.w:=λ y=>by simp only[d6];rfl
  have ih:=λ h z z'=>aU (A++[x]) z z' h (λ y m=>hl y (.tail _ m)) (by rw[al];exact ai [_,_] (Pl (Pl X0 (Nm 1)) X1) (Nm 400) 1 (Pl X0 (Pl X1 (Nm 1))) (Nm 400) rfl k')
  rw[al] at ih
  have qq:∀oA:H,(∀b,b≠f->oA b=h b)->∀h' z z',(∀b,b≠f->h' b=oA b)->h' f=some (.list (((A++[x])++B).map (dn.v lab)))->K .next [some (.ref a.em),some (.ref f),z,z'] h':=λ oA OR h' z z' e1 e2=>q h' z z' (λ b n=>(e1 b n).trans (OR b n)) (by rw[d6] at e2;exact e2)
  cases ht:x.to with
  |none=>
   simp only[jJ,ht]
   refine ih h z z' he hd hj ?_ (qq h λ u0 u0=>rfl)
   rw[hf,List.map_cons,VO,iD,List.map_cons,List.map_nil,dn.NR ht]
  |some b=>
   simp only[jJ,ht]
   have VP:=hl x (.head _) b ht
   have VQ:(A.map (dn.v lab)++(x::B).map dn.w)[A.length]?=some x.w:=by
    have:=C2 (A.map (dn.v lab)) x.w (B.map dn.w)
    rw[dR] at this;exact this
   have UM:(A.map (dn.v lab)++(x::B).map dn.w).set A.length (x.v lab)=(A++[x]).map (dn.v lab)++B.map dn.w:=by
    have:=JB (A.map (dn.v lab)) x.w (x.v lab) (B.map dn.w)
    rw[dR] at this
    rw[List.map_cons,this,VO,iD];rfl
   have cT:(A.length:Int)<((A.map (dn.v lab)++(x::B).map dn.w).length:Nat):=by
    simp only[eQ,dR,dR];exact jk (by show A.length<A.length+(B.length+1);exact aL [_,_] (Pl X0 (Nm 1)) (Pl X0 (Pl X1 (Nm 1))) rfl)
   have next:∀z z',cw [2,3] (wB (ah prog n) ji) (λ h'=>h' j=some (.list lj)) ((jJ (A.length+1) B).map MO) [some (.ref a.em),some (.ref f),z,z'] K (aC h f (.list ((A.map (dn.v lab)++(x::B).map dn.w).set A.length (x.v lab)))):=λ z z'=>
    ih _ z z' (ag he hs.2.1.symm) (ag hd hs.1.symm) (ag hj hs.2.2.symm) (by rw[aa,UM]) (qq _ λ c n=>bu n)
   cases x with
   |d7 b'=>
    obtain rfl:=c8 ht
    refine f9 hj ?_;refine cQ hf (tc VQ) ?_;refine Pz (sm rfl) ?_;refine ay he ef ?_;refine dj hd VP ?_;refine bT (sm rfl) ?_;refine Nb (sm rfl) ?_;refine Dx hf (g9 _) cT ?_;exact next _ _
   |br p b'=>
    obtain rfl:=c8 ht
    refine f9 hj ?_;refine cQ hf (tc VQ) ?_;refine Pz (sm rfl) ?_;refine ay he ef ?_;refine dj hd VP ?_;refine bT (sm rfl) ?_;refine Nb (sm rfl) ?_;refine Dx hf (g9 _) cT ?_;exact next _ _
   |_=>exact dD ht
theorem u9{lab:Nat->Int}{Q:V->H->Prop}(X:Em h₀ a C st sc h)(hl:∀x∈C,∀b,x.to=some b->aE (iy st) (b:Int)=some (.int (lab b)))
  (q:∀f h',h f=none->le h h'->h' f=some (.list (C.map (dn.v lab)))->Q (.ref f) h'):ah prog (n+1) .finished [.ref a.em] Q h:=by
 refine bJ rfl ?_;refine ay X.em rfl ?_;refine sR X.i X.OX λ f hf=>?_;refine ay (ax X.em hf) rfl ?_;refine cA (ax X.j hf) X.jL ?_
 have W7:=(aj X.em hf).symm
 have W8:=(aj X.s hf).symm
 have W9:=(aj X.j hf).symm
 refine Hb (lab:=lab) ⟨W8,W7,W9⟩ rfl C [] none none _ hl (by rw[show([]:List dn).length=0 from rfl];have:=X.n;exact ai [_] (Pl (Nm 0) X0) (Nm 400) 1 X0 (Nm 400) rfl this) (ax X.em hf) (ax X.s hf) (ax X.j hf) (aa ..) λ h' z z' e1 e2=>?_
 exact bD (av _) (q f h' hf (λ b o e=>(e1 b (aj e hf)).trans (ax e hf)) e2)
noncomputable def OZ(sc:Bool):Int:=if sc then 1 else 0
theorem uu{Q:V->H->Prop}(X:Em h₀ a C st sc h)(uD:Ap h₀ a.pl d cnt es)(hc:cnt<=940)(q:Q (.int (cnt+OZ sc)) h):ah prog (n+1) .cX [.ref a.em] Q h:=by
 refine bJ rfl ?_;refine ay X.em rfl ?_;refine ay (X.le _ _ uD.pl) rfl ?_;refine ay X.em rfl ?_
 have:(OZ sc).natAbs<=1:=by cases sc<;>exact eP rfl
 exact Uv (by simp only[Int.natAbs_natCast];exact ai [_] (Pl X0 (Nm 1)) (Nm (2^62)) 1 X0 (Nm 940) rfl hc) (by show(OZ sc).natAbs<_;exact ai [_] (Pl X0 (Nm 1)) (Nm (2^62)) 1 X0 (Nm 1) rfl this) (bD (av _) q)
theorem pZ{Q:V->H->Prop}(he:h em=none)(q:∀a h',a.em=em->a.u=u->a.pl=pl->Em h a [] [] false h'->Q .none h'):ah prog (n+1) .kh [.ref em,.ref u,.ref pl] Q (aC h em (.inst .ge [])):=by
 refine bJ rfl ?_;refine cm (aa ..) rfl (dQ rfl) ?_;refine cm (aa ..) rfl (dQ rfl) ?_
 rw[a9,a9]
 refine bf (sm rfl) λ i hi=>?_;refine cm (ax (aa ..) hi) rfl (dQ rfl) ?_;refine cR λ s hs=>?_
 have s1:=aD hs
 have s2:=aD s1.2
 have i1:=aD hi
 refine cm (ax (aa ..) hs) rfl (dQ rfl) ?_;refine bf (sm rfl) λ j hj=>?_
 have j1:=aD hj
 have j2:=aD j1.2
 have j3:=aD j2.2
 have j4:=aD j3.2
 refine cm (ax (aa ..) hj) rfl (dQ rfl) ?_;refine cm (aa ..) rfl (dQ rfl) ?_;refine dL (av _) ?_
 refine q ⟨em,u,pl,i,s,j⟩ _ rfl rfl rfl ?_
 exact⟨aQ (aQ (aX (aQ (aX (aQ (aX (aA he) hi) he) hs) he) hj) he) he,he,i1.2,(aD s2.2).2,(aD j4.2).2,aa ..,
  ag (ag (ax (ag (ax (ag (aa ..) i1.1) hs) i1.1) hj) i1.1) i1.1,ag (ag (ax (ag (aa ..) s1.1) hj) s1.1) s1.1,
  ag (ag (aa ..) j1.1) j1.1,j4.1.symm,dz _⟩
noncomputable def Un.bcode(U:Un)(P:Nat->Nat)(cnt k:Nat)(later:Option Nat):List dn:=(U.blocks[k]?.map λ b=>jW U P cnt b later).getD []
noncomputable def Un.Nk(U:Un)(P:Nat->Nat)(cnt k:Nat):Bool:=(U.blocks[k]?.map λ b=>wC U P cnt b.end_).getD false
noncomputable def dI(U:Un)(P:Nat->Nat)(cnt:Nat):List Nat->List dn
 |[]=>[]
 |k::o=>U.bcode P cnt k o.head?++dI U P cnt o
noncomputable def cH(U:Un)(P:Nat->Nat)(cnt:Nat):Nat->List Nat->List (Nat×Nat)
 |_,[]=>[]
 |n,k::o=>(k,n)::cH U P cnt (n+(U.bcode P cnt k o.head?).length) o
noncomputable def vv(U:Un)(P:Nat->Nat)(cnt:Nat)(o:List Nat):Bool:=o.any λ k=>U.Nk P cnt k
theorem uv(U:Un)(P:Nat->Nat)(cnt:Nat)(later:Option Nat)(e:End):(cL U P cnt later e).length<=4:=by
 unfold cL
 cases e with
 |goto j l=>
  have:=j8 (bL P (U.par j) l) cnt
  show((nq (bL P (U.par j) l) cnt).map (λ p=>dn.mv p.1 p.2)++(if later=some j then[] else[dn.d7 j])).length<=4
  rw[eQ,dR]
  split
  ·exact cV this (Nat.le_succ 3)
  ·exact jj this
 |branch c t e=>
  show(dn.br (P c) e::(if later=some t then[] else[dn.d7 t])).length<=4
  simp only[List.length_cons]
  split<;>exact eP rfl
 |call f k l=>exact eP rfl
 |give f l=>exact eP rfl
theorem my{P:Nat->Nat}(h:b.ops.length<=10):(jW U P cnt b later).length<=14:=by
 unfold jW
 have:=uv U P cnt later b.end_
 simp only[eQ,dR];exact aS [_,_] (Pl X0 X1) (Nm 14) 1 X0 (Nm 10) 1 X1 (Nm 4) rfl h this
theorem Eg{P:Nat->Nat}{K:Out->Fr->H->Prop}(S:Sane U)(hu:bF h₀ x U)(au:a.u=x.u)(uD:Ap h₀ a.pl d cnt es)(p:Sl U es P cnt)(Fa:h₀ ol=some (.list (aB o)))(ho:∀k∈o,k<U.blocks.length)(OC:o.Nodup)(hn:o.length<=4):
  ∀(k7 pre:List Nat) (C:List dn) (st:List (Nat×Nat)) (sc:Bool) (z1 z2 z3:Option V) (h:H),o=pre++k7->st.map (·.1)=pre->C.length<=20*pre.length->Em h₀ a C st sc h->
  (∀z1 z2 z3 h,Em h₀ a (C++dI U P cnt k7) (st++cH U P cnt C.length k7) (sc||vv U P cnt k7) h->K .next [some (.ref x.u),some pl,some (.ref a.em),some (.ref ol),z1,z2,z3] h)->
  cw [4,5] (wB (ah prog (n+6)) fN) (λ h'=>h' ol=some (.list (aB o))) (iK pre.length (aB k7)) [some (.ref x.u),some pl,some (.ref a.em),some (.ref ol),z1,z2,z3] K h:=by
 intro xR
 induction xR with
 |nil=>
  intro pre C st sc z1 z2 z3 h e es k X q
  exact kR (X.le _ _ Fa) (q z1 z2 z3 h (by dsimp only[dI,cH,vv];simp only[eE,eE];show Em h₀ a C st (sc||false) h;rw[Bool.or_false];exact X))
 |cons i k7 aU=>
  intro pre C st sc z1 z2 z3 h e es k X q
  have So:pre.length+(k7.length+1)<=4:=by rw[e,eQ] at hn;exact hn
  have hs:(aB o).length<aZ:=by rw[ac];exact cO hn (by decide)
  have hi:=ho i (by rw[e];exact mA _ (.head _))
  refine nQ (hu.at_ hi) λ y b e1 e2 u0=>?_
  have VR:i∉st.map (·.1):=by
   rw[es]
   rw[e,List.nodup_append] at OC
   exact λ m=>OC.2.2 i m i (.head _) rfl
  have O0:st.length<=10:=by rw[←dR (f:=(·.1)),es];exact ai [_,_] X0 (Nm 10) 1 (Pl X0 (Pl X1 (Nm 1))) (Nm 4) rfl So
  have body:∀h',h'=h->ah prog (n+6) .eh [.ref a.em,.ref y.b,qk k7.head?] (λ v h'=>oL v (cw [4,5] (wB (ah prog (n+6)) fN) (λ h'=>h' ol=some (.list (aB o))) (iK ((pre.length:Int)+1) (aB k7)) [some (.ref x.u),some pl,some (.ref a.em),some (.ref ol),some (.int pre.length),some (.int i),some (qk k7.head?)] K h')) h:=λ u0 u0=>by
   refine r8 (later:=k7.head?) S X hu au uD e1 e2 p VR O0 (by exact aS [_,_,_] X0 (Nm 370) 1 X0 (Ml 20 X1) 20 (Pl X1 (Pl X2 (Nm 1))) (Nm 4) rfl k So) λ h' X'=>?_
   have bc:jW U P cnt b k7.head?=U.bcode P cnt i k7.head?:=by unfold Un.bcode;rw[e2];rfl
   have bl:=my (U:=U) (P:=P) (cnt:=cnt) (later:=k7.head?) (S.gY i b e2).oF
   have bs:wC U P cnt b.end_=U.Nk P cnt i:=by unfold Un.Nk;rw[e2];rfl
   rw[bc] at X' bl
   rw[bs] at X'
   have VS:(pre++[i]).length=pre.length+1:=by rw[eQ];rfl
   have ih:=aU (pre++[i]) _ _ _ (some (.int pre.length)) (some (.int i)) (some (qk k7.head?)) h' (by simp only[e,d6];rfl) (by rw[iD,es];rfl) (by simp only[eQ,VS];exact aS [_,_,_] (Pl X0 X1) (Ml 20 (Pl X2 (Nm 1))) 1 X0 (Ml 20 X2) 1 X1 (Nm 14) rfl k bl) X'
    (λ z1 z2 z3 h X=>q z1 z2 z3 h (by simp only[d6,d6,Bool.or_assoc,eQ] at X;exact X))
   rw[VS] at ih;exact ih
  refine f9 (X.le _ _ Fa) ?_;refine oE (p:=pre.length) (q:=1) (by exact ai [_,_] (Pl (Pl X0 (Nm 1)) (Nm 1)) (Nm 2000000) 1 (Pl X0 (Pl X1 (Nm 1))) (Nm 4) rfl So) ?_;refine qi (X.le _ _ Fa) hs ?_
  have ln:((aB o).length:Int)=((pre.length+1+k7.length:Nat):Int):=by simp only[ac,e,eQ,List.length_cons];exact congrArg _ (by exact dP (aL [_,_] (Pl X0 (Pl X1 (Nm 1))) (Pl (Pl X0 (Nm 1)) X1) rfl) (aL [_,_] (Pl (Pl X0 (Nm 1)) X1) (Pl X0 (Pl X1 (Nm 1))) rfl))
  have tW:=hu.le X.le
  simp only[ln]
  cases k7 with
  |nil=>
   refine sM (eY λ h=>Nat.lt_irrefl _ (Int.ofNat_lt.mp h)) ?_;refine cU X.em rfl rfl ?_;refine ay tW.u rfl ?_;refine cQ tW.bs (xM e1) ?_;exact body h rfl
  |cons i' QQ=>
   refine wj (dE (jk (by show _<pre.length+1+(QQ.length+1);exact aL [_,_] (Pl (Pl X0 (Nm 1)) (Nm 1)) (Pl (Pl X0 (Nm 1)) (Pl X1 (Nm 1))) rfl))) ?_;refine oE (p:=pre.length) (q:=1) (by exact ai [_,_] (Pl (Pl X0 (Nm 1)) (Nm 1)) (Nm 2000000) 1 (Pl X0 (Pl X1 (Nm 1))) (Nm 4) rfl So) ?_
   have gl:(aB o)[pre.length+1]?=some (.int i'):=by
    unfold aB
    rw[List.getElem?_map,e,wf (by exact aL [_] X0 (Pl X0 (Nm 1)) rfl),show pre.length+1-pre.length=1 by exact dP (ai [_,_] X0 (Nm 1) 1 (Pl X0 X1) (Pl X1 (Nm 1)) rfl (AA (aL [_] X0 (Pl X0 (Nm 1)) rfl))) (ai [_,_] (Nm 1) X0 1 (Pl X1 (Nm 1)) (Pl X0 X1) rfl (Az _ _))];rfl
   refine cQ (X.le _ _ Fa) (tc gl) ?_;refine cU X.em rfl rfl ?_;refine ay tW.u rfl ?_;refine cQ tW.bs (xM e1) ?_;exact body h rfl
theorem m9{Q:V->H->Prop}(q:Q .none (aC h pr (.inst .dB [(.number,v1),(.title,v2),(.cJ,v3),(.cF,v4),(.aT,v5),(.cX,v6),(.free,v7),(.bv,v8)]))):
  ah prog (n+1) .iA [.ref pr,v1,v2,v3,v4,v5,v6,v7,v8] Q (aC h pr (.inst .dB [])):=by
 refine bJ rfl ?_;refine cm (aa ..) rfl (dQ rfl) ?_;refine cm (aa ..) rfl (dQ rfl) ?_;refine cm (aa ..) rfl (dQ rfl) ?_;refine cm (aa ..) rfl (dQ rfl) ?_;refine cm (aa ..) rfl (dQ rfl) ?_;refine cm (aa ..) rfl (dQ rfl) ?_;refine cm (aa ..) rfl (dQ rfl) ?_;refine cm (aa ..) rfl (dQ rfl) ?_
 rw[a9,a9,a9,a9,a9,a9,a9,a9]
 exact dL (av _) q
noncomputable def kD(U:Un)(P:Nat->Nat)(cnt:Nat)(o:List Nat)(b:Nat):Int:=match aE (iy (cH U P cnt 0 o)) (b:Int) with|some v=>(match v with| .int i=>i|_=>0)|none=>0
structure AN (h:H) (U:Un) (P:Nat->Nat) (cnt:Nat) (o:List Nat) (pr ia:Nat):Prop where
 pr:h pr=some (.inst .dB [(.number,.int 0),(.title,.str .u),(.cJ,.int U.cJ),(.cF,.bool false),(.aT,.bool false),(.cX,.int (cnt+OZ (vv U P cnt o))),(.free,.int 0),(.bv,.ref ia)])
 ia:h ia=some (.list ((dI U P cnt o).map (dn.v (kD U P cnt o))))
theorem Ord.facts(O:Ord bs o):(∀k∈o,k<bs.length)/\o.Nodup/\o.length<=4/\∀k<bs.length,k∈o:=by
 cases O with
 |one=>exact⟨show∀k∈[0],k<1 by decide,by decide,eP rfl,show∀k<1,k∈[0] by decide⟩
 |join=>exact⟨show∀k∈[0,1,3,2],k<4 by decide,by decide,eP rfl,show∀k<4,k∈[0,1,3,2] by decide⟩
 |loop=>exact⟨show∀k∈[0,1,2,3],k<4 by decide,by decide,eP rfl,show∀k<4,k∈[0,1,2,3] by decide⟩
theorem C3{P:Nat->Nat}(hx:x.to=some b):∀(o:List Nat),x∈dI U P cnt o->∃(k:Nat) (bl:Block),U.blocks[k]?=some bl/\b∈bl.end_.blocks
 |[],m=>nomatch m
 |k::o,m=>by
  unfold dI at m
  rcases gP m with m|m
  ·unfold Un.bcode at m
   cases e:U.blocks[k]? with
   |none=>rw[e] at m;cases m
   |some bl=>
    rw[e] at m
    refine⟨k,bl,e,?_⟩
    have m:x∈jW U P cnt bl o.head?:=m
    unfold jW at m
    rcases gP m with m|m
    ·refine aG (iE m) λ y u0 ak=>?_;obtain rfl:=ak;exact dD hx
    ·unfold cL at m
     cases he:bl.end_ with
     |goto j l=>
      simp only[he] at m
      rcases gP m with m|m
      ·refine aG (iE m) λ y u0 ak=>?_;obtain rfl:=ak;exact dD hx
      ·split at m
       ·cases m
       ·cases cP m;obtain rfl:=c8 hx;exact .head _
     |branch c t e=>
      simp only[he] at m
      rcases ci m with rfl|m
      ·obtain rfl:=c8 hx;exact .tail _ (.head _)
      ·split at m
       ·cases m
       ·cases cP m;obtain rfl:=c8 hx;exact .head _
     |call f k l=>rw[he] at m;cases cP m;exact dD hx
     |give f l=>rw[he] at m;cases cP m;exact dD hx
  ·exact C3 hx o m
theorem l7{P:Nat->Nat}:∀{o:List Nat} {n:Nat},(cH U P cnt n o).map (·.1)=o:=by
 intro xR
 induction xR with
 |nil=>
  intro _
  exact rfl
 |cons _ _ aU=>
  intro _
  exact congrArg _ aU
theorem Gv{P:Nat->Nat}(OC:o.Nodup)(m:(b,s)∈cH U P cnt 0 o):aE (iy (cH U P cnt 0 o)) (b:Int)=some (.int (kD U P cnt o b))/\kD U P cnt o b=s:=by
 have:=hU (es:=cH U P cnt 0 o) (by unfold wk;rw[l7];exact OC) m
 unfold kD
 rw[this];exact⟨rfl,rfl⟩
theorem qa{P:Nat->Nat}{Q:V->H->Prop}(S:Sane U)(hu:bF h x U)(O:Ord U.blocks o)(uD:Ap h pl d cnt es)(hc:cnt<=940)(p:Sl U es P cnt)
  (q:∀pr ia h',le h h'->AN h' U P cnt o pr ia->Q (.ref pr) h'):ah prog (n+7) .ki [.ref x.u,.ref pl] Q h:=by
 have hO:=O.facts
 refine bJ rfl ?_;refine cR λ em he=>?_;refine pZ he λ a bB ae au ap X=>?_
 subst ae;subst ap
 refine zR (hu.le X.le) O λ ol yr cN cq Fa=>?_
 have ho:=bn X.le yr
 have hs:(aB o).length<aZ:=by rw[ac];exact cO hO.2.2.1 (by decide)
 have lo:=aA (o:=.list (aB o)) ho
 have aM:Em (aC h ol (.list (aB o))) a [] [] false cN:=⟨jb Fa (aF X.le cq),(bu (aj X.em yr)).trans X.e0,(bu (aj X.i yr)).trans X.i0,(bu (aj X.s yr)).trans X.s0,(bu (aj X.j yr)).trans X.j0,cq _ _ X.em,cq _ _ X.i,cq _ _ X.s,cq _ _ X.j,X.ij,X.n⟩
 have PQ:Ap (aC h ol (.list (aB o))) a.pl d cnt es:=⟨lo _ _ uD.pl,lo _ _ uD.d⟩
 refine FR Fa hs ?_
 refine Eg (pl:=.ref a.pl) S (hu.le lo) au PQ p (aa ..) hO.1 hO.2.1 hO.2.2.1 o [] [] [] false none none none cN rfl rfl (dz _) aM λ z1 z2 z3 fv bG=>?_
 have bG:Em (aC h ol (.list (aB o))) a (dI U P cnt o) (cH U P cnt 0 o) (vv U P cnt o) fv:=bG
 have DB:=((hu.le lo).le bG.le).u
 refine ay DB rfl ?_;refine ay DB rfl ?_;refine ay DB rfl ?_;refine ay DB rfl ?_;refine ay DB rfl ?_;refine cU bG.em rfl rfl ?_;refine uu bG PQ hc ?_;refine ay DB rfl ?_;refine cU bG.em rfl rfl ?_
 refine u9 (lab:=kD U P cnt o) bG (λ y hy b hb=>?_) λ f k8 hf qj UN=>?_
 ·refine fh (C3 hb o hy) λ k bl e1 e2=>?_
  have:=hO.2.2.2 b ((S.gY k bl e1).to b e2)
  rw[←l7 (U:=U) (P:=P) (cnt:=cnt) (o:=o) (n:=0)] at this
  refine aG (iE this) λ ak m bA=>?_;obtain⟨b',s⟩:=ak;obtain rfl:=bA
  exact(Gv hO.2.1 m).1
 refine cR λ pr VT=>?_;refine m9 ?_
 exact bD (av _) (q pr f _ (aX (aF lo (aF bG.le qj)) VT) ⟨aa ..,ax UN VT⟩)
theorem JC(h0:(0:Nat)<x0):((x0:Nat):Int)≠(0:Int):=Int.ne_of_gt (jk h0)
theorem JD(h0:((x0:Nat):Int)≠(0:Int)):(0:Int)<((x0:Nat):Int):=jk (Nat.pos_of_ne_zero λ e=>h0 (congrArg Int.ofNat e))
theorem JE(h0:(0:Int)<=(x0%((x1:Nat):Int)))(h1:(x0%((x1:Nat):Int))<((x1:Nat):Int)):(Int.toNat (x0%((x1:Nat):Int)))<x1:=(Int.toNat_lt h0).mpr h1
theorem JF(h0:(0:Nat)<x0):(0:Int)<((x0:Nat):Int):=jk h0
theorem C4:((((x0+(1:Nat)):Nat):Int)-(1:Int))=((x0:Nat):Int):=Int.add_sub_cancel (x0:Int) 1
theorem JG(h0:x0<=(200:Nat))(h1:((x0+(1:Nat))*(x0+(1:Nat)))<=((201:Nat)*(201:Nat))):((((x0+(1:Nat))*(x0+(1:Nat)))*(31:Nat))+((17:Nat)*(x0+(1:Nat))))<(2000000:Nat):=cO (bQ (Nat.mul_le_mul_right 31 h1) (iJ 17 (jj h0))) (eP rfl)
theorem C5(h0:x0<=(200:Nat))(h1:x1<=(100:Nat))(h2:((x0+(1:Nat))*(x0+(1:Nat)))<=((201:Nat)*(201:Nat))):(((((x0+(1:Nat))*(x0+(1:Nat)))*(31:Nat))+((17:Nat)*(x0+(1:Nat))))+((5:Nat)*x1))<(2000000:Nat):=cO (bQ (bQ (Nat.mul_le_mul_right 31 h2) (iJ 17 (jj h0))) (iJ 5 h1)) (eP rfl)
theorem JH(h0:x0<=(200:Nat))(h1:x1<=(100:Nat))(h2:((x0+(1:Nat))*(x0+(1:Nat)))<=((201:Nat)*(201:Nat))):(((((x0+(1:Nat))*(x0+(1:Nat)))*(31:Nat))+((17:Nat)*(x0+(1:Nat))))+((5:Nat)*x1))<((2:Nat)^62):=Nat.lt_trans (C5 h0 h1 h2) (eP rfl)
section
variable {Q : V -> H -> Prop} {h : H}
theorem PR(x:0<j)(y:j.natAbs<2^62)(q:Q (.int (i%j)) h):eG .mod (.int i) (.int j) Q h:=by unfold eG;exact⟨⟨x,y⟩,q⟩
theorem QS(x:0<q)(y:p<2^62)(z:q<2^62)(r:Q (.int (p/q:Nat)) h):eG .fdiv (.int p) (.int q) Q h:=by unfold eG;exact⟨⟨g9 _,jk x,y,z⟩,r⟩
theorem Ji(x:p<2^30)(y:q<2^30)(r:Q (.int (p*q:Nat)) h):eG .mul (.int p) (.int q) Q h:=by unfold eG;exact⟨⟨x,y⟩,r⟩
end
structure LA where
 dk:Nat
 s:Nat
 u:Nat
 bs:Nat
structure LU (hb:H) (a:LA) (L:List Int) (i:Nat) (en nd:V) (cnt:Nat) (Bl:List BA) (h:H):Prop where
 le:le hb h
 d0:hb a.dk=none
 u0:hb a.u=none
 b0:hb a.bs=none
 s:hb a.s=some (.list (L.map V.int))
 dk:h a.dk=some (.list [.ref a.s,.int i])
 u:h a.u=some (.inst .dy [(.number,.int 0),(.title,.str .u),(.aT,.bool false),(.entry,en),(.cJ,nd),(.cF,.bool false),(.free,.int 0),(.count,.int cnt),(.blocks,.ref a.bs)])
 bs:h a.bs=some (.list (Bl.map λ y=> .ref y.b))
 db:a.dk≠a.bs
 Ll:L.length<=100
section
variable {hb h : H} {a : LA} {L : List Int} {i cnt : Nat} {en nd : V} {Bl : List BA}
theorem LU.du(X:LU hb a L i en nd cnt Bl h):a.dk≠a.u:=λ e=>by have:=X.dk;rw[e,X.u] at this;cases this
theorem LU.ub(X:LU hb a L i en nd cnt Bl h):a.u≠a.bs:=λ e=>by have:=X.u;rw[e,X.bs] at this;cases this
theorem LU.ku(X:LU hb a L i en nd cnt Bl h)(hk:h k=some (.list l)):k≠a.u:=λ e=>by rw[e,X.u] at hk;cases hk
theorem LU.kd(X:LU hb a L i en nd cnt Bl h)(hk:h k=some (.list (aB K))):k≠a.dk:=λ e=>by rw[e,X.dk] at hk;cases K<;>cases hk
theorem LU.kb(X:LU hb a L i en nd cnt Bl h)(hk:h k=some (.list (aB K)))(h0:0<K.length):k≠a.bs:=λ e=>by
 rw[e,X.bs] at hk
 cases K with
 |nil=>cases h0
 |cons r K=>cases Bl<;>cases hk
theorem LU.draw(X:LU hb a L i en nd cnt Bl h):LU hb a L (i+1) en nd cnt Bl (aC h a.dk (.list [.ref a.s,.int (i+1:Nat)])):=
 ⟨aQ X.le X.d0,X.d0,X.u0,X.b0,X.s,aa ..,ag X.u X.du.symm,ag X.bs X.db.symm,X.db,X.Ll⟩
theorem LU.Fs(X:LU hb a L i en nd cnt Bl h):LU hb a L i en' nd' cnt' Bl (aC h a.u (.inst .dy [(.number,.int 0),(.title,.str .u),(.aT,.bool false),(.entry,en'),(.cJ,nd'),(.cF,.bool false),(.free,.int 0),(.count,.int cnt'),(.blocks,.ref a.bs)])):=
 ⟨aQ X.le X.u0,X.d0,X.u0,X.b0,X.s,ag X.dk X.du,aa ..,ag X.bs X.ub.symm,X.db,X.Ll⟩
theorem LU.grow(X:LU hb a L i en nd cnt Bl h)(l:Mine.le h h'):LU hb a L i en nd cnt Bl h':=⟨aF X.le l,X.d0,X.u0,X.b0,X.s,l _ _ X.dk,l _ _ X.u,l _ _ X.bs,X.db,X.Ll⟩
theorem LU.over(X:LU hb a L i en nd cnt Bl h)(k0:hb k=none)(d:k≠a.dk)(u:k≠a.u)(b:k≠a.bs):LU hb a L i en nd cnt Bl (aC h k o):=⟨aQ X.le k0,X.d0,X.u0,X.b0,X.s,ag X.dk d.symm,ag X.u u.symm,ag X.bs b.symm,X.db,X.Ll⟩
theorem LU.add(X:LU hb a L i en nd cnt Bl h)(hk:h k=some o)(k0:hb k=none)(d:k≠a.dk)(u:k≠a.u)(b:k≠a.bs):LU (aC hb k o) a L i en nd cnt Bl h:=⟨jb hk X.le,(bu d.symm).trans X.d0,(bu u.symm).trans X.u0,(bu b.symm).trans X.b0,ax X.s k0,X.dk,X.u,X.bs,X.db,X.Ll⟩
theorem LU.drop(X:LU fO a L i en nd cnt Bl h)(l:Mine.le hb fO)(s:hb a.s=some (.list (L.map V.int))):LU hb a L i en nd cnt Bl h:=⟨aF l X.le,bn l X.d0,bn l X.u0,bn l X.b0,s,X.dk,X.u,X.bs,X.db,X.Ll⟩
theorem C6(h:0<m):∃v:Nat,v<m/\x%(m:Int)=v:=by
 have h':(m:Int)≠0:=by exact JC h
 have a:=Int.emod_nonneg x h'
 have b:=Int.emod_lt_of_pos x (show 0<(m:Int) by exact JD h')
 exact⟨(x%(m:Int)).toNat,by exact JE a b,(Int.toNat_of_nonneg a).symm⟩
theorem bX{Q:V->H->Prop}(X:LU hb a L i en nd cnt Bl h)(m0:0<m)(m1:m<=1000)(hi:i<=200)(q:∀v:Nat,v<m->Q (.int v) (aC h a.dk (.list [.ref a.s,.int (i+1:Nat)]))):ah prog (n+1) .cG [.ref a.dk,.int m] Q h:=by
 have Ll:=X.Ll
 have hl:(L.map V.int).length<aZ:=by rw[dR];exact cO Ll (by decide)
 have Y:=X.draw
 have ys:=Y.le _ _ Y.s
 have mm:(0:Int)<m/\(m:Int).natAbs<2^62:=⟨by exact JF m0,by simp only[Int.natAbs_natCast];exact ai [_] (Pl X0 (Nm 1)) (Nm (2^62)) 1 X0 (Nm 1000) rfl m1⟩
 refine bJ rfl ?_;refine cQ X.dk rfl ?_;refine oE (p:=i) (q:=1) (by exact ai [_] (Pl (Pl X0 (Nm 1)) (Nm 1)) (Nm 2000000) 1 X0 (Nm 200) rfl hi) ?_;refine Dx X.dk (by decide) (show(1:Int)<2 by decide) ?_
 refine cQ Y.dk rfl ?_;refine cQ Y.dk rfl ?_;refine qi ys hl ?_;refine oX (λ c=>?_) (λ c=>?_)
 ·have c:=Int.ofNat_le.mp (gS c)
  simp only[dR] at c
  refine cQ Y.dk rfl ?_;refine cQ Y.dk rfl ?_;refine M9 (by simp only[Int.natAbs_natCast];exact aS [_,_] (Pl (Pl X0 (Nm 1)) (Nm 1)) (Nm (2^62)) 1 X1 (Nm 100) 1 (Pl X0 (Nm 1)) X1 rfl Ll c) (by decide) ?_
  rw[show((i+1:Nat):Int)-1=(i:Int) by exact C4]
  have e:(L.map V.int)[i]?=some (.int (L[i]'(by exact ai [_,_] (Pl X0 (Nm 1)) X1 1 (Pl X0 (Nm 1)) X1 rfl c))):=by rw[List.getElem?_map,kH (show i<L.length by exact ai [_,_] (Pl X0 (Nm 1)) X1 1 (Pl X0 (Nm 1)) X1 rfl c)];rfl
  refine cQ ys (tc e) ?_;refine PR mm.1 mm.2 ?_
  refine aG (C6 (x:=L[i]'(by exact ai [_,_] (Pl X0 (Nm 1)) X1 1 (Pl X0 (Nm 1)) X1 rfl c)) m0) λ v hv ev=>?_
  simp only[ev]
  exact bD (av _) (q v hv)
 ·have j2:(i+1)*(i+1)<=201*201:=Nat.mul_le_mul (by exact ai [_] (Pl X0 (Nm 1)) (Nm 201) 1 X0 (Nm 200) rfl hi) (by exact ai [_] (Pl X0 (Nm 1)) (Nm 201) 1 X0 (Nm 200) rfl hi)
  refine cQ Y.dk rfl ?_;refine cQ Y.dk rfl ?_;refine Ji (p:=i+1) (q:=i+1) (by exact ai [_] (Pl (Pl X0 (Nm 1)) (Nm 1)) (Nm (2^30)) 1 X0 (Nm 200) rfl hi) (by exact ai [_] (Pl (Pl X0 (Nm 1)) (Nm 1)) (Nm (2^30)) 1 X0 (Nm 200) rfl hi) ?_;refine Ji (q:=31) (by exact ai [_] (Pl X0 (Nm 1)) (Nm (2^30)) 1 X0 (Ml 201 (Nm 201)) rfl j2) (by exact aL [] (Pl (Nm 31) (Nm 1)) (Nm (2^30)) rfl) ?_;refine cQ Y.dk rfl ?_;refine Ji (p:=17) (q:=i+1) (by exact aL [] (Pl (Nm 17) (Nm 1)) (Nm (2^30)) rfl) (by exact ai [_] (Pl (Pl X0 (Nm 1)) (Nm 1)) (Nm (2^30)) 1 X0 (Nm 200) rfl hi) ?_;refine oE (by exact JG hi j2) ?_
  refine cQ Y.dk rfl ?_;refine qi ys hl ?_
  rw[dR]
  refine Ji (p:=5) (by exact aL [] (Pl (Nm 5) (Nm 1)) (Nm (2^30)) rfl) (by exact ai [_] (Pl X0 (Nm 1)) (Nm (2^30)) 1 X0 (Nm 100) rfl Ll) ?_;refine oE (by exact C5 hi Ll j2) ?_;refine QS (q:=7) (by exact aL [] (Pl (Nm 0) (Nm 1)) (Nm 7) rfl) (by exact JH hi Ll j2) (by exact aL [] (Pl (Nm 7) (Nm 1)) (Nm (2^62)) rfl) ?_;refine PR mm.1 mm.2 ?_
  refine aG (C6 (x:=(((i+1)*(i+1)*31+17*(i+1)+5*L.length)/7:Nat)) m0) λ v hv ev=>?_
  rw[ev]
  exact bD (av _) (q v hv)
theorem yu{Q:V->H->Prop}(X:LU hb a L i en nd cnt Bl h)(hk:h k=some (.list (aB K)))(h0:0<K.length)(h1:K.length<=1000)(hi:i<=200)
  (q:∀r:Nat,r∈K->Q (.int r) (aC h a.dk (.list [.ref a.s,.int (i+1:Nat)]))):xS (.ref k) (λ w h=>ah prog (n+1) .cG [.ref a.dk,w] (λ v h=>oD (.ref k) v Q h) h) h:=by
 refine qi hk (by rw[ac];exact cO h1 (by decide)) ?_
 rw[ac]
 refine bX X h0 h1 hi λ v hv=>?_
 have:=MK hv
 rw[kH hv] at this
 exact cQ (ag hk (X.kd hk)) this (q _ (List.getElem_mem hv))
theorem oj{Q:V->H->Prop}(X:LU hb a L i en nd cnt Bl h)(hc:cnt<=1000)(q:Q (.int cnt) (aC h a.u (.inst .dy [(.number,.int 0),(.title,.str .u),(.aT,.bool false),(.entry,en),(.cJ,nd),(.cF,.bool false),(.free,.int 0),(.count,.int (cnt+1:Nat)),(.blocks,.ref a.bs)]))):
  ah prog (n+1) .jf [.ref a.u] Q h:=by
 refine bJ rfl ?_;refine ay X.u rfl ?_;refine oE (p:=cnt) (q:=1) (by exact ai [_] (Pl (Pl X0 (Nm 1)) (Nm 1)) (Nm 2000000) 1 X0 (Nm 1000) rfl hc) ?_;refine cm X.u rfl (dQ rfl) ?_;refine ay (aa ..) rfl ?_;refine M9 (by simp only[Int.natAbs_natCast];exact ai [_] (Pl (Pl X0 (Nm 1)) (Nm 1)) (Nm (2^62)) 1 X0 (Nm 1000) rfl hc) (by decide) ?_
 simp only[show((cnt+1:Nat):Int)-1=(cnt:Int) by exact C4]
 exact bD (av _) q
end
structure PS (K:List Nat) (cnt:Nat) (o:Op) (cnt':Nat):Prop where
 ok:o.ok
 rd:∀r∈o.reads,r∈K
 wr:∀r∈o.writes,cnt<=r/\r<cnt'
 le:cnt<=cnt'/\cnt'<=cnt+2
 wl:o.writes.length<=2
section
variable {hb h : H} {a : LA} {L : List Int} {i cnt : Nat} {en nd : V} {Bl : List BA}
theorem sr(m:r∈[cnt]):cnt<=r/\r<cnt+1:=by cases cP m;exact⟨aL [_] X0 X0 rfl,aL [_] (Pl X0 (Nm 1)) (Pl X0 (Nm 1)) rfl⟩
theorem JI(m:r∈[cnt,cnt+1]):cnt<=r/\r<cnt+2:=by
 rcases ci m with rfl|m
 ·exact⟨aL [_] X0 X0 rfl,aL [_] (Pl X0 (Nm 1)) (Pl X0 (Nm 2)) rfl⟩
 ·cases cP m;exact⟨aL [_] X0 (Pl X0 (Nm 1)) rfl,aL [_] (Pl (Pl X0 (Nm 1)) (Nm 1)) (Pl X0 (Nm 2)) rfl⟩
theorem zT{Q:V->H->Prop}(X:LU hb a L i en nd cnt Bl h)(hk:h k=some (.list (aB K)))(k0:hb k=none)(h0:0<K.length)(h1:K.length<=100)(hc:cnt<=100)(hi:i<=190)(hK:∀r∈K,r<cnt)
  (q:∀o i' cnt' h',PS K cnt o cnt'->i'<=i+4->LU hb a L i' en nd cnt' Bl h'->h' k=some (.list (aB (K++o.writes)))->Q o.v h'):ah prog (n+2) .AJ [.ref a.dk,.ref a.u,.ref k] Q h:=by
 have kd:=X.kd hk
 have ku:=X.ku hk
 have kb:=X.kb hk h0
 have ks:(aB K).length<aZ:=by rw[ac];exact cO h1 (by decide)
 refine bJ rfl ?_;refine bX X (m:=6) (by decide) (by decide) (by exact ai [_] X0 (Nm 200) 1 X0 (Nm 190) rfl hi) λ v hv=>?_;refine fT (n:=2) (by decide) ?_;refine qe ?_
 have aO:=X.draw
 refine yu aO (ag hk kd) h0 (by exact ai [_] X0 (Nm 1000) 1 X0 (Nm 100) rfl h1) (by exact ai [_] (Pl X0 (Nm 1)) (Nm 200) 1 X0 (Nm 190) rfl hi) λ r1 m1=>?_;refine qe ?_
 have aM:=aO.draw
 refine yu aM (ag (ag hk kd) kd) h0 (by exact ai [_] X0 (Nm 1000) 1 X0 (Nm 100) rfl h1) (by exact ai [_] (Pl (Pl X0 (Nm 1)) (Nm 1)) (Nm 200) 1 X0 (Nm 190) rfl hi) λ r2 m2=>?_;refine xZ ?_;refine bf (l:=[.int r1,.int r2]) (sm rfl) λ z hz=>?_;refine bT (sm rfl) ?_
 have bG:=aM.draw.grow (aA (o:=.list [.int r1,.int r2]) hz)
 have lD:=ax (p:=.list [.int r1,.int r2]) (ag (p:=.list [.ref a.s,.int (i+1+1+1:Nat)]) (ag (p:=.list [.ref a.s,.int (i+1+1:Nat)]) (ag (p:=.list [.ref a.s,.int (i+1:Nat)]) hk kd) kd) kd) hz
 have yv:=aa (aC (aC (aC h a.dk (.list [.ref a.s,.int (i+1:Nat)])) a.dk (.list [.ref a.s,.int (i+1+1:Nat)])) a.dk (.list [.ref a.s,.int (i+1+1+1:Nat)])) z (.list [.int r1,.int r2])
 have zk:=(aj (ag (p:=.list [.ref a.s,.int (i+1+1+1:Nat)]) (ag (p:=.list [.ref a.s,.int (i+1+1:Nat)]) (ag (p:=.list [.ref a.s,.int (i+1:Nat)]) hk kd) kd) kd) hz).symm
 clear hz aO aM hk X
 generalize aC (aC (aC (aC h a.dk (.list [.ref a.s,.int (i+1:Nat)])) a.dk (.list [.ref a.s,.int (i+1+1:Nat)])) a.dk (.list [.ref a.s,.int (i+1+1+1:Nat)])) z (.list [.int r1,.int r2])=fv at*
 have Nl:=bG.kd (K:=[r1,r2]) yv
 have zu:=bG.ku yv
 refine oX (λ u0=>?_) (λ u0=>?_)
 ·refine bX bG (m:=2) (by decide) (by decide) (by exact ai [_] (Pl (Pl (Pl X0 (Nm 1)) (Nm 1)) (Nm 1)) (Nm 200) 1 X0 (Nm 190) rfl hi) λ d u0=>?_;refine cQ (ag yv Nl) rfl ?_;refine bT (sm rfl) ?_
  exact bD (av _) (q (.define d r1) (i+4) cnt _ ⟨trivial,λ r m=>by cases cP m;exact m1,(λ u0 m=>nomatch m),by exact⟨aL [_] X0 X0 rfl,aL [_] X0 (Pl X0 (Nm 2)) rfl⟩,dz _⟩ (by exact aL [_] (Pl X0 (Nm 4)) (Pl X0 (Nm 4)) rfl) bG.draw (by show _=some (O.list (aB (K++[])));simp only[eE];exact ag lD kd))
 have fI:=bG.Fs (en':=en) (nd':=nd) (cnt':=cnt+1)
 have oR:=ag (p:=.inst .dy [(.number,.int 0),(.title,.str .u),(.aT,.bool false),(.entry,en),(.cJ,nd),(.cF,.bool false),(.free,.int 0),(.count,.int (cnt+1:Nat)),(.blocks,.ref a.bs)]) lD ku
 have d9:=fI.over (o:=.list (aB K++[.int cnt])) k0 kd ku kb
 have Ft:aB K++[.int cnt]=aB (K++[cnt]):=(bg (A:=K) (B:=[cnt])).symm
 have jp:=aa (aC fv a.u (.inst .dy [(.number,.int 0),(.title,.str .u),(.aT,.bool false),(.entry,en),(.cJ,nd),(.cF,.bool false),(.free,.int 0),(.count,.int (cnt+1:Nat)),(.blocks,.ref a.bs)])) k (.list (aB K++[.int cnt]))
 have vw:=ag (p:=.list (aB K++[.int cnt])) (ag (p:=.inst .dy [(.number,.int 0),(.title,.str .u),(.aT,.bool false),(.entry,en),(.cJ,nd),(.cF,.bool false),(.free,.int 0),(.count,.int (cnt+1:Nat)),(.blocks,.ref a.bs)]) yv zu) zk
 refine cU bG.u rfl rfl ?_;refine oj bG (by exact ai [_] X0 (Nm 1000) 1 X0 (Nm 100) rfl hc) ?_;refine bC oR ?_;refine cb oR ks ?_
 clear fI oR yv lD bG
 generalize aC (aC fv a.u _) k _=fV at*
 simp only[Ft] at jp
 refine oX (λ u0=>?_) (λ u0=>?_)
 ·refine bX d9 (m:=3) (by decide) (by decide) (by exact ai [_] (Pl (Pl (Pl X0 (Nm 1)) (Nm 1)) (Nm 1)) (Nm 200) 1 X0 (Nm 190) rfl hi) λ d u0=>?_;refine bT (sm rfl) ?_
  exact bD (av _) (q (.const cnt d) (i+4) (cnt+1) _ ⟨trivial,(λ u0 m=>nomatch m),λ u0 m=>sr m,by exact⟨aL [_] X0 (Pl X0 (Nm 1)) rfl,aL [_] (Pl X0 (Nm 1)) (Pl X0 (Nm 2)) rfl⟩,eP rfl⟩ (by exact aL [_] (Pl X0 (Nm 4)) (Pl X0 (Nm 4)) rfl) d9.draw (ag jp kd))
 refine oX (λ u0=>?_) (λ u0=>?_)
 ·refine bX d9 (m:=2) (by decide) (by decide) (by exact ai [_] (Pl (Pl (Pl X0 (Nm 1)) (Nm 1)) (Nm 1)) (Nm 200) 1 X0 (Nm 190) rfl hi) λ d u0=>?_;refine bT (sm rfl) ?_
  exact bD (av _) (q (.free cnt d) (i+4) (cnt+1) _ ⟨trivial,(λ u0 m=>nomatch m),λ u0 m=>sr m,by exact⟨aL [_] X0 (Pl X0 (Nm 1)) rfl,aL [_] (Pl X0 (Nm 1)) (Pl X0 (Nm 2)) rfl⟩,eP rfl⟩ (by exact aL [_] (Pl X0 (Nm 4)) (Pl X0 (Nm 4)) rfl) d9.draw (ag jp kd))
 have l1:=hK r1 m1
 have l2:=hK r2 m2
 have rd:∀r∈[r1,r2],r∈K:=λ r m=>by
  rcases ci m with rfl|m
  ·exact m1
  ·cases cP m;exact m2
 refine oX (λ u0=>?_) (λ u0=>?_)
 ·refine cU d9.u rfl rfl ?_;refine oj d9 (by exact ai [_] (Pl X0 (Nm 1)) (Nm 1000) 1 X0 (Nm 100) rfl hc) ?_;refine bC (ag jp ku) ?_;refine cb (ag jp ku) (by rw[ac,eQ];exact cO (bQ h1 (bE 1)) (by decide)) ?_
  have mG:=(d9.Fs (en':=en) (nd':=nd) (cnt':=cnt+1+1)).over (o:=.list (aB (K++[cnt])++[.int (cnt+1:Nat)])) k0 kd ku kb
  have Ce:=ag (p:=.list (aB (K++[cnt])++[.int (cnt+1:Nat)])) (ag (p:=.inst .dy [(.number,.int 0),(.title,.str .u),(.aT,.bool false),(.entry,en),(.cJ,nd),(.cF,.bool false),(.free,.int 0),(.count,.int (cnt+1+1:Nat)),(.blocks,.ref a.bs)]) vw zu) zk
  refine cQ Ce rfl ?_;refine bT (sm rfl) ?_;refine bT (sm rfl) ?_;refine cQ Ce rfl ?_;refine bT (sm rfl) ?_;refine bT (sm rfl) ?_;refine bT (sm rfl) ?_;refine bT (sm rfl) ?_
  exact bD (av _) (q (.fix cnt (cnt+1) r1 r2) (i+3) (cnt+2) _ ⟨⟨by exact Nat.ne_of_lt (aL [_] (Pl X0 (Nm 1)) (Pl X0 (Nm 1)) rfl),by exact Nat.ne_of_lt (ai [_,_] (Pl X0 (Nm 1)) X1 1 (Pl X0 (Nm 1)) X1 rfl l1),by exact Nat.ne_of_lt (ai [_,_] (Pl X0 (Nm 1)) (Pl X1 (Nm 1)) 1 (Pl X0 (Nm 1)) X1 rfl l1),by exact Nat.ne_of_lt (ai [_,_] (Pl X0 (Nm 1)) X1 1 (Pl X0 (Nm 1)) X1 rfl l2),by exact Nat.ne_of_lt (ai [_,_] (Pl X0 (Nm 1)) (Pl X1 (Nm 1)) 1 (Pl X0 (Nm 1)) X1 rfl l2)⟩,rd,λ u0 m=>JI m,by exact⟨aL [_] X0 (Pl X0 (Nm 2)) rfl,aL [_] (Pl X0 (Nm 2)) (Pl X0 (Nm 2)) rfl⟩,eP rfl⟩ (by exact aL [_] (Pl X0 (Nm 3)) (Pl X0 (Nm 4)) rfl) mG (by show _=some (O.list (aB (K++([cnt]++[cnt+1]))));rw[←d6,bg (A:=K++[cnt])];exact aa ..))
 refine oX (λ u0=>?_) (λ u0=>?_)
 ·refine bX d9 (m:=3) (by decide) (by decide) (by exact ai [_] (Pl (Pl (Pl X0 (Nm 1)) (Nm 1)) (Nm 1)) (Nm 200) 1 X0 (Nm 190) rfl hi) λ d u0=>?_;refine xU (ag vw Nl) (sm rfl) ?_;refine bT (sm rfl) ?_
  exact bD (av _) (q (.prim cnt d r1 r2) (i+4) (cnt+1) _ ⟨trivial,rd,λ u0 m=>sr m,by exact⟨aL [_] X0 (Pl X0 (Nm 1)) rfl,aL [_] (Pl X0 (Nm 1)) (Pl X0 (Nm 2)) rfl⟩,eP rfl⟩ (by exact aL [_] (Pl X0 (Nm 4)) (Pl X0 (Nm 4)) rfl) d9.draw (ag jp kd))
 ·refine bX d9 (m:=3) (by decide) (by decide) (by exact ai [_] (Pl (Pl (Pl X0 (Nm 1)) (Nm 1)) (Nm 1)) (Nm 200) 1 X0 (Nm 190) rfl hi) λ d u0=>?_;refine xU (ag vw Nl) (sm rfl) ?_;refine bT (sm rfl) ?_
  exact bD (av _) (q (.closure cnt d r1 r2) (i+4) (cnt+1) _ ⟨trivial,rd,λ u0 m=>sr m,by exact⟨aL [_] X0 (Pl X0 (Nm 1)) rfl,aL [_] (Pl X0 (Nm 1)) (Pl X0 (Nm 2)) rfl⟩,eP rfl⟩ (by exact aL [_] (Pl X0 (Nm 4)) (Pl X0 (Nm 4)) rfl) d9.draw (ag jp kd))
end
theorem JJ(h0:x0<=(50:Nat))(h1:x1<=(2:Nat))(h2:x2<=(1:Nat))(h3:x3<(2:Nat)):((x0+x1)+((2:Nat)*(x2+x3)))<=(100:Nat):=ai [x0,x1,x2,x3] (Pl (Pl X0 X1) (Ml 2 (Pl X2 X3))) (Nm 100) 1 (Pl (Pl (Pl X0 X1) (Ml 2 X2)) (Ml 2 (Pl X3 (Nm 1)))) (Pl (Pl (Pl (Nm 50) (Nm 2)) (Ml 2 (Nm 1))) (Ml 2 (Nm 2))) rfl (bQ (bQ (bQ h0 h1) (iJ 2 h2)) (iJ 2 h3))
inductive sU:List Nat->Nat->List Op->List Nat->Nat->Prop where
 |nil {K:List Nat} {c:Nat}:sU K c [] K c
 |cons {K K':List Nat} {c oH c':Nat} {o:Op} {os:List Op} (x:PS K c o oH) (y:sU (K++o.writes) oH os K' c'):sU K c (o::os) K' c'
structure Bk (hb h:H) (a:LA) (j:Nat) (y:BA) (os:List Op) (e:V):Prop where
 b:h y.b=some (.inst .ct [(.number,.int j),(.params,.ref y.p),(.ops,.ref y.o),(.eZ,e)])
 o:h y.o=some (.list (os.map Op.v))
 b0:hb y.b=none
 o0:hb y.o=none
 od:y.o≠a.dk
 ob:y.o≠a.bs
section
variable {hb h : H} {a : LA} {L : List Int} {i cnt : Nat} {en nd : V} {Bl : List BA}
theorem Bk.d(Y:Bk hb h a j y os e)(X:LU hb a L i en nd cnt Bl h):y.b≠a.dk/\y.b≠a.u/\y.b≠a.bs/\y.o≠a.u/\y.b≠y.o:=
 ⟨(λ x=>by have:=Y.b;rw[x,X.dk] at this;cases this),(λ x=>by have:=Y.b;rw[x,X.u] at this;cases this),(λ x=>by have:=Y.b;rw[x,X.bs] at this;cases this),X.ku Y.o,(λ x=>by have:=Y.b;rw[x,Y.o] at this;cases this)⟩
noncomputable def Bk.base(hb:H)(j:Nat)(y:BA)(os:List Op)(e:V):H:=aC (aC hb y.b (.inst .ct [(.number,.int j),(.params,.ref y.p),(.ops,.ref y.o),(.eZ,e)])) y.o (.list (os.map Op.v))
theorem Bk.VU(Y:Bk hb h a j y os e)(X:LU hb a L i en nd cnt Bl h):LU (Bk.base hb j y os e) a L i en nd cnt Bl h/\Mine.le hb (Bk.base hb j y os e):=
 have d:=Y.d X
 have o0:=(bu (o:=.inst .ct [(.number,.int j),(.params,.ref y.p),(.ops,.ref y.o),(.eZ,e)]) d.2.2.2.2.symm).trans Y.o0
 ⟨(X.add Y.b Y.b0 d.1 d.2.1 d.2.2.1).add Y.o o0 Y.od d.2.2.2.1 Y.ob,aX (aA Y.b0) o0⟩
theorem Bk.out(Y:Bk hb h a j y os e)(l:Mine.le (Bk.base hb j y os e) h'):Bk hb h' a j y os e:=by
 have bo:y.b≠y.o:=λ x=>by have:=Y.b;rw[x,Y.o] at this;cases this
 exact⟨l _ _ (ag (aa ..) bo),l _ _ (aa ..),Y.b0,Y.o0,Y.od,Y.ob⟩
theorem iX{a b:Nat}(x:h a=some o)(y:h b=none):b≠a:=(aj x y).symm
theorem Eh{C:Out->Fr->H->Prop}(k0:hb k=none)(ko:k≠y.o):∀(m:Nat) (t:Int) (os:List Op) (K:List Nat) (i cnt:Nat) (z:Option V) (h:H),LU hb a L i en nd cnt Bl h->Bk hb h a j y os .none->h k=some (.list (aB K))->0<K.length->K.length+2*m<=100->cnt+2*m<=100->i+4*m<=190->os.length+m<=10->(∀r∈K,r<cnt)->
  (∀sV K' i' cnt' z h',sU K cnt sV K' cnt'->sV.length=m->i'<=i+4*m->LU hb a L i' en nd cnt' Bl h'->Bk hb h' a j y (os++sV) .none->h' k=some (.list (aB K'))->C .next [some (.ref a.dk),some (.ref a.u),some (.ref k),pv,lv,some (.ref y.b),z] h')->
  cw [6] (wB (ah prog (n+2)) mx) (λ u0=>True) (dH t m) [some (.ref a.dk),some (.ref a.u),some (.ref k),pv,lv,some (.ref y.b),z] C h:=by
 intro xR
 induction xR with
 |zero=>
  intro t os K i cnt z h X Y hk _ _ _ _ _ _ q
  exact Oz (q [] K i cnt z h .nil rfl (bE _) X (by simp only[eE];exact Y) hk)
 |succ m aU=>
  intro t os K i cnt z h X Y hk h0 h1 hc hi ho hK q
  have d:=Y.d X
  refine bV (Y.VU X) λ aO bI=>?_
  have kb:k≠y.b:=λ e=>by simp only[e,Y.b] at hk;cases hk
  refine wv ?_;refine ay Y.b rfl ?_;refine bC Y.o ?_;refine zT aO hk ((bu ko).trans ((bu kb).trans k0)) h0 (by exact ai [_,_] X0 (Nm 100) 1 (Pl X0 (Ml 2 (Pl X1 (Nm 1)))) (Nm 100) rfl h1) (by exact ai [_,_] X0 (Nm 100) 1 (Pl X0 (Ml 2 (Pl X1 (Nm 1)))) (Nm 100) rfl hc) (by exact ai [_,_] X0 (Nm 190) 1 (Pl X0 (Ml 4 (Pl X1 (Nm 1)))) (Nm 190) rfl hi) hK λ o Aq oH bB O LZ aM lE=>?_
  have sP:=Y.out aM.le
  have bG:=aM.drop bI X.s
  refine cb sP.o (by rw[dR];exact cO (show os.length<=10 by exact ai [_,_] X0 (Nm 10) 1 (Pl X0 (Pl X1 (Nm 1))) (Nm 10) rfl ho) (by decide)) ?_
  have e:os.map Op.v++[o.v]=(os++[o]).map Op.v:=by rw[iD];rfl
  simp only[e]
  have wl:=O.wl
  exact aU (t+1) (os++[o]) (K++o.writes) Aq oH _ _ (bG.over Y.o0 Y.od d.2.2.2.1 Y.ob) ⟨ag sP.b d.2.2.2.2,aa ..,Y.b0,Y.o0,Y.od,Y.ob⟩ (ag lE ko)
   (by rw[eQ];exact ai [_,_] (Pl (Nm 0) (Nm 1)) (Pl X0 X1) 1 (Pl (Nm 0) (Nm 1)) X0 rfl h0) (by rw[eQ];exact aS [_,_,_] (Pl (Pl X0 X1) (Ml 2 X2)) (Nm 100) 1 (Pl X0 (Ml 2 (Pl X2 (Nm 1)))) (Nm 100) 1 X1 (Nm 2) rfl h1 wl) (by have:=O.le;exact aS [_,_,_] (Pl X0 (Ml 2 X1)) (Nm 100) 1 (Pl X2 (Ml 2 (Pl X1 (Nm 1)))) (Nm 100) 1 X0 (Pl X2 (Nm 2)) rfl hc this.2) (by exact aS [_,_,_] (Pl X0 (Ml 4 X1)) (Nm 190) 1 (Pl X2 (Ml 4 (Pl X1 (Nm 1)))) (Nm 190) 1 X0 (Pl X2 (Nm 4)) rfl hi LZ) (by rw[eQ];show os.length+1+m<=10;exact ai [_,_] (Pl (Pl X0 (Nm 1)) X1) (Nm 10) 1 (Pl X0 (Pl X1 (Nm 1))) (Nm 10) rfl ho)
   (λ r mr=>by
    rcases gP mr with x|x
    ·exact kI (hK r x) O.le.1
    ·exact(O.wr r x).2)
   λ sV K' i' cnt' z h' w1 w2 w3 w4 w5 w6=>q (o::sV) K' i' cnt' z h' (.cons O w1) (congrArg (·+1) w2) (by exact aS [_,_,_,_] X0 (Pl X1 (Ml 4 (Pl X2 (Nm 1)))) 1 X3 (Pl X1 (Nm 4)) 1 X0 (Pl X3 (Ml 4 X2)) rfl LZ w3) w4 (by rw[d6] at w5;exact w5) w6
theorem oy{Q:V->H->Prop}(q:∀o,aC h b (.inst .ct []) o=none->Q .none (aC (aC h b (.inst .ct [(.number,v),(.params,.ref p),(.ops,.ref o),(.eZ,.none)])) o (.list []))):
  ah prog (n+1) .je [.ref b,v,.ref p] Q (aC h b (.inst .ct [])):=by
 refine bJ rfl ?_;refine cm (aa ..) rfl (dQ rfl) ?_;refine cm (aa ..) rfl (dQ rfl) ?_
 simp only[a9,a9]
 refine bf (sm rfl) λ o ho=>?_
 have o1:=aD ho
 refine cm (ax (aa ..) ho) rfl (dQ rfl) ?_;refine cm (aa ..) rfl (dQ rfl) ?_;refine dL (av _) ?_
 rw[a9,c6 o1.1,a9]
 exact q o ((bu o1.1).trans o1.2)
theorem uw{n k p least:Nat}{Q:V->H->Prop}(X:LU hb a L i en nd cnt Bl h)(hk:h k=some (.list (aB K)))(k0:hb k=none)(hp:hb p=some (.list (aB ps)))(h0:0<K.length)(h1:K.length<=50)(pl:ps.length<=2)(hc:cnt<=90)(hi:i<=160)(hl:least<=1)(hB:Bl.length<=5)(hK:∀r∈K++ps,r<cnt)
  (q:∀y os K' i' cnt' h',y.p=p->sU (K++ps) cnt os K' cnt'->os.length<=2->i'<=i+9->LU hb a L i' en nd cnt' (Bl++[y]) h'->Bk hb h' a Bl.length y os .none->h' k=some (.list (aB K'))->k≠y.o->Q (.ref y.b) h'):ah prog (n+3) .dS [.ref a.dk,.ref a.u,.ref k,.ref p,.int least] Q h:=by
 have kd:=X.kd hk
 have ku:=X.ku hk
 have kb:=X.kb hk h0
 have ks:(aB K).length<aZ:=by rw[ac];exact cO h1 (by decide)
 have bl:(Bl.map λ y=>V.ref y.b).length=Bl.length:=dR ..
 have VV:(Bl.map λ y=>V.ref y.b).length<aZ:=by rw[bl];exact cO hB (by decide)
 refine bJ rfl ?_;refine ay X.u rfl ?_;refine qi X.bs VV ?_;refine cR λ b MP=>?_
 rw[bl]
 have aO:=X.grow (aA (o:=.inst .ct []) MP)
 refine oy λ o ho=>?_
 have o1:=aD ho
 have bN:=bn X.le MP
 have oN:=bn X.le o1.2
 have db:=(aj X.dk MP).symm
 have ub:=(aj X.u MP).symm
 have bb:=(aj X.bs MP).symm
 have dO:=(aj X.dk o1.2).symm
 have uO:=(aj X.u o1.2).symm
 have bO:=(aj X.bs o1.2).symm
 have bk:=(aj hk MP).symm
 have ok:=(aj hk o1.2).symm
 have aM:=((X.over (o:=.inst .ct [(.number,.int Bl.length),(.params,.ref p),(.ops,.ref o),(.eZ,.none)]) bN db ub bb).over (o:=.list []) oN dO uO bO)
 have sP:Bk hb (aC (aC h b (.inst .ct [(.number,.int Bl.length),(.params,.ref p),(.ops,.ref o),(.eZ,.none)])) o (.list [])) a Bl.length ⟨b,p,o⟩ [] .none:=⟨ag (aa ..) o1.1.symm,aa ..,bN,oN,dO,bO⟩
 have lE:=ag (p:=.list []) (ag (p:=.inst .ct [(.number,.int Bl.length),(.params,.ref p),(.ops,.ref o),(.eZ,.none)]) hk bk.symm) ok.symm
 clear MP ho o1 aO hk X
 generalize aC (aC h b _) o _=cN at*
 refine ay aM.u rfl ?_;refine bC aM.bs ?_;refine cb aM.bs VV ?_
 have Ft:(Bl.map λ y=>V.ref y.b)++[.ref b]=(Bl++[(⟨b,p,o⟩:BA)]).map λ y=>V.ref y.b:=by rw[iD];rfl
 simp only[Ft]
 have bG:LU hb a L i en nd cnt (Bl++[⟨b,p,o⟩]) (aC cN a.bs (.list ((Bl++[(⟨b,p,o⟩:BA)]).map λ y=>V.ref y.b))):=⟨aQ aM.le aM.b0,aM.d0,aM.u0,aM.b0,aM.s,ag aM.dk aM.db,ag aM.u aM.ub,aa ..,aM.db,aM.Ll⟩
 have Fu:Bk hb (aC cN a.bs (.list ((Bl++[(⟨b,p,o⟩:BA)]).map λ y=>V.ref y.b))) a Bl.length ⟨b,p,o⟩ [] .none:=⟨ag sP.b bb,ag sP.o bO,bN,oN,dO,bO⟩
 have lD:=ag (p:=.list ((Bl++[(⟨b,p,o⟩:BA)]).map λ y=>V.ref y.b)) lE kb
 clear sP lE aM
 generalize aC cN a.bs _=fv at*
 have Xa:k≠p:=iX hp k0
 refine bC lD ?_;refine Fl lD (bG.le _ _ hp) Xa (by simp only[ac,ac];exact cO (bQ h1 pl) (by decide)) ?_
 have fI:=bG.over (o:=.list (aB K++aB ps)) k0 kd ku kb
 have Nn:Bk hb (aC fv k (.list (aB K++aB ps))) a Bl.length ⟨b,p,o⟩ [] .none:=⟨ag Fu.b bk,ag Fu.o ok,bN,oN,dO,bO⟩
 have oR:=aa fv k (.list (aB K++aB ps))
 simp only[←bg] at oR fI Nn⊢
 clear lD bG Fu
 generalize aC fv k _=k8 at*
 refine bX fI (m:=2) (by decide) (by decide) (by exact ai [_] X0 (Nm 200) 1 X0 (Nm 160) rfl hi) λ v hv=>?_;refine oE (p:=least) (q:=v) (by exact aS [_,_] (Pl (Pl X0 X1) (Nm 1)) (Nm 2000000) 1 X0 (Nm 1) 1 (Pl X1 (Nm 1)) (Nm 2) rfl hl hv) ?_;refine fT (n:=least+v) (cO (show least+v<=2 by exact aS [_,_] (Pl X0 X1) (Nm 2) 1 X0 (Nm 1) 1 (Pl X1 (Nm 1)) (Nm 2) rfl hl hv) (by decide)) ?_
 refine Eh (y:=⟨b,p,o⟩) k0 ok.symm (least+v) 0 [] (K++ps) (i+1) cnt none _ fI.draw ⟨ag Nn.b db,ag Nn.o dO,bN,oN,dO,bO⟩ (ag oR kd) (by rw[eQ];exact ai [_,_] (Pl (Nm 0) (Nm 1)) (Pl X0 X1) 1 (Pl (Nm 0) (Nm 1)) X0 rfl h0) (by rw[eQ];exact JJ h1 pl hl hv) (by exact fH [_,_,_] (Pl X0 (Ml 2 (Pl X1 X2))) (Nm 100) 1 X0 (Nm 90) 2 X1 (Nm 1) 2 (Pl X2 (Nm 1)) (Nm 2) rfl hc hl hv) (by exact fH [_,_,_] (Pl (Pl X0 (Nm 1)) (Ml 4 (Pl X1 X2))) (Nm 190) 1 X0 (Nm 160) 4 X1 (Nm 1) 4 (Pl X2 (Nm 1)) (Nm 2) rfl hi hl hv) (by show 0+_<=_;exact aS [_,_] (Pl (Nm 0) (Pl X0 X1)) (Nm 10) 1 X0 (Nm 1) 1 (Pl X1 (Nm 1)) (Nm 2) rfl hl hv) hK λ sV K' i' cnt' z h' w1 w2 w3 w4 w5 w6=>?_
 exact bD (av _) (q ⟨b,p,o⟩ sV K' i' cnt' h' rfl w1 (by exact fH [_,_,_] X0 (Nm 2) 1 X1 (Nm 1) 1 (Pl X2 (Nm 1)) (Nm 2) 1 X0 (Pl X1 X2) rfl hl hv (bw w2)) (by exact fH [_,_,_,_] X0 (Pl X1 (Nm 9)) 4 X2 (Nm 1) 4 (Pl X3 (Nm 1)) (Nm 2) 1 X0 (Pl (Pl X1 (Nm 1)) (Ml 4 (Pl X2 X3))) rfl hl hv w3) w4 w5 w6 ok.symm)
theorem Ei{C:List V->H->Prop}(h0:0<K.length)(h1:K.length<=100):∀(m:Nat) (t:Int) (acc:List Nat) (i:Nat) (h:H),LU hb a L i en nd cnt Bl h->h k=some (.list (aB K))->i+m<=200->
  (∀l i' h',l.length=m->(∀r∈l,r∈K)->i'=i+m->LU hb a L i' en nd cnt Bl h'->(∀x ob,x≠a.dk->h x=some ob->h' x=some ob)->C (aB (acc++l)) h')->
  dY 3 (kJ (ah prog (n+1)) lq) (wE (ah prog (n+1)) nF) (λ u0=>True) [some (.ref a.dk),some (.ref k),some z,none] (dH t m) (aB acc) C h:=by
 intro xR
 induction xR with
 |zero=>
  intro t acc i h X hk _ q
  exact xZ (by have:=q [] i h rfl (λ u0 m=>nomatch m) rfl X (λ u0 u0 u0 e=>e);rw[eE] at this;exact this)
 |succ m aU=>
  intro t acc i h X hk hi q
  refine qe ?_;refine yu X hk h0 (by exact ai [_] X0 (Nm 1000) 1 X0 (Nm 100) rfl h1) (by exact ai [_,_] X0 (Nm 200) 1 (Pl X0 (Pl X1 (Nm 1))) (Nm 200) rfl hi) λ r mr=>?_
  have ih:=aU (t+1) (acc++[r]) (i+1) _ X.draw (ag hk (X.kd hk)) (by exact ai [_,_] (Pl (Pl X0 (Nm 1)) X1) (Nm 200) 1 (Pl X0 (Pl X1 (Nm 1))) (Nm 200) rfl hi) λ l i' h' a1 a2 a3 a4 a5=>by
   rw[d6]
   exact q (r::l) i' h' (congrArg (·+1) a1) (λ x m=>by rcases ci m with rfl|m;exact mr;exact a2 x m) (by exact dP (ai [_,_,_] X0 (Pl X1 (Pl X2 (Nm 1))) 1 X0 (Pl (Pl X1 (Nm 1)) X2) rfl (bw a3)) (ai [_,_,_] (Pl X0 (Pl X1 (Nm 1))) X2 1 (Pl (Pl X0 (Nm 1)) X1) X2 rfl (bw a3.symm))) a4 λ x ob d e=>a5 x ob d (ag e d)
  simp only[bg] at ih
  exact ih
theorem dW{Q:V->H->Prop}(X:LU hb a L i en nd cnt Bl h)(hk:h k=some (.list (aB K)))(h0:0<K.length)(h1:K.length<=100)(hm:m<=3)(hi:i<=190)
  (q:∀l h',l.length=m->(∀r∈l,r∈K)->LU hb a L (i+m) en nd cnt Bl h'->(∀x ob,x≠a.dk->h x=some ob->h' x=some ob)->Q (.tup (aB l)) h'):ah prog (n+2) .gA [.ref a.dk,.ref k,.int m] Q h:=by
 refine bJ rfl ?_;refine fT (n:=m) (cO hm (by decide)) ?_
 refine Ei h0 h1 m 0 [] i h X hk (by exact aS [_,_] (Pl X0 X1) (Nm 200) 1 X1 (Nm 3) 1 X0 (Nm 190) rfl hm hi) λ l i' h' e1 e2 e3 X' DO=>?_
 have hs:(aB l).length<aZ:=by rw[ac,e1];exact cO hm (by decide)
 refine bf hs λ z hz=>?_;refine xU (aa ..) hs ?_;refine bD (aA hz) ?_
 exact q l h' e1 e2 (by rw[←e3];exact X') DO
end
theorem JK(h0:(x0<=x1/\x1<=(x0+(2:Nat))))(h1:(x1<=x2/\x2<=(x1+((2:Nat)*x3)))):x0<=x2:=ai [x0,x2,x1,x3] X0 X1 1 (Pl X0 X2) (Pl X2 X1) rfl (bQ h0.1 h1.1)
theorem JL(h0:((x0+x1)<=x2/\x2<=((x0+x1)+((2:Nat)*x3)))):x0<=x2:=ai [x0,x2,x1,x3] X0 X1 1 (Pl X0 X2) X1 rfl h0.1
theorem JM(h0:(x0<=x1/\x1<=(x0+(2:Nat))))(h1:(x1<=x2/\x2<=(x1+((2:Nat)*x3))))(h2:x4<x0):x4<x2:=ai [x4,x2,x0,x1,x3] (Pl X0 (Nm 1)) X1 1 (Pl (Pl X2 X3) (Pl X0 (Nm 1))) (Pl (Pl X3 X1) X2) rfl (bQ (bQ h0.1 h1.1) h2)
theorem JN(h0:(x0<=x1/\x1<=(x0+((2:Nat)*x2))))(h1:x3<x0):x3<x1:=ai [x3,x1,x0,x2] (Pl X0 (Nm 1)) X1 1 (Pl X2 (Pl X0 (Nm 1))) (Pl X1 X2) rfl (bQ h0.1 h1)
theorem vc(h:(bP o a).testBit r=true):(a.testBit r=true/\r∉o.writes)\/r∈o.reads:=by
 unfold bP at h
 simp only[bh,ft,aJ,aJ] at h
 simpa using h
structure hG (K:List Nat) (c:Nat) (os:List Op) (K':List Nat) (c':Nat):Prop where
 le:c<=c'/\c'<=c+2*os.length
 lt:∀r∈K',r<c'
 ops:∀o∈os,o.ok/\∀r∈o.e9,r<c'
 mem:∀r∈K',r∈K\/∃o∈os,r∈o.writes
 inc:∀r∈K,r∈K'
 len:K.length<=K'.length/\K'.length<=K.length+2*os.length
 rd:∀o∈os,∀r∈o.reads,r∈K'
 lv:∀e:Nat,(∀r,e.testBit r=true->r∈K')->∀r,(cK os e).testBit r=true->r∈K
theorem sU.facts(x:sU K c os K' c')(h:∀r∈K,r<c):hG K c os K' c':=by
 induction x with
 |nil=>exact⟨⟨bE _,Nat.le_add_right ..⟩,h,(λ u0 m=>nomatch m),λ u0 m=> .inl m,λ u0 m=>m,⟨bE _,Nat.le_add_right ..⟩,(λ u0 m=>nomatch m),λ u0 h=>h⟩
 |@cons K K' c oH c' o os x y ih=>
  have xl:=x.le
  have xw:=x.wl
  have f:=ih λ r m=>by
   rcases gP m with m|m
   ·have:=h r m;exact aS [_,_,_] (Pl X0 (Nm 1)) X1 1 X2 X1 1 (Pl X0 (Nm 1)) X2 rfl xl.1 this
   ·exact(x.wr r m).2
  have fl:=f.le
  have fn:=f.len
  rw[eQ] at fn
  refine⟨⟨by exact JK xl fl,by simp only[List.length_cons];exact aS [_,_,_,_] X0 (Pl X1 (Ml 2 (Pl X2 (Nm 1)))) 1 X3 (Pl X1 (Nm 2)) 1 X0 (Pl X3 (Ml 2 X2)) rfl xl.2 fl.2⟩,f.lt,λ p m=>?_,λ r m=>?_,λ r m=>f.inc r (kU _ m),⟨by exact JL fn,by simp only[List.length_cons];exact aS [_,_,_,_] X0 (Pl X1 (Ml 2 (Pl X2 (Nm 1)))) 1 X3 (Nm 2) 1 X0 (Pl (Pl X1 X3) (Ml 2 X2)) rfl xw fn.2⟩,λ p m r hr=>?_,λ e he r hr=>?_⟩
  ·rcases ci m with rfl|m
   ·refine⟨x.ok,λ r hr=>?_⟩
    rcases gP hr with hr|hr
    ·have:=h r (x.rd r hr);exact JM xl fl this
    ·have:=(x.wr r hr).2;exact JN fl this
   ·exact f.ops p m
  ·rcases f.mem r m with m|⟨p,hp,hr⟩
   ·rcases gP m with m|m
    ·exact .inl m
    ·exact .inr ⟨o,.head _,m⟩
   ·exact .inr ⟨p,.tail _ hp,hr⟩
  ·rcases ci m with rfl|m
   ·exact f.inc r (kU _ (x.rd r hr))
   ·exact f.rd p m r hr
  ·rcases vc hr with⟨a,b⟩|m
   ·exact(gP (f.lv e he r a)).resolve_right b
   ·exact x.rd r m
structure VW (U:Un) (i:Nat) (b:Block) (Ks Ke:Nat->List Nat):Prop where
 ops:∀o∈b.ops,o.ok/\∀r∈o.e9,r<U.count
 lt:∀r∈Ke i,r<U.count
 ol:b.ops.length<=2
 mem:∀r∈Ke i,r∈Ks i\/∃o∈b.ops,r∈o.writes
 inc:∀r∈Ks i,r∈Ke i
 rd:∀o∈b.ops,∀r∈o.reads,r∈Ke i
 lv:∀e:Nat,(∀r,e.testBit r=true->r∈Ke i)->∀r,(cK b.ops e).testBit r=true->r∈Ks i
 par:∀r∈b.params,r∈Ks i
 pl:b.params.length<=2
 pn:b.params.Nodup
 en:∀r∈b.end_.reads,r∈Ke i
 el:b.end_.reads.length<=4
 to:∀j∈b.end_.blocks,j<U.blocks.length/\∀r∈Ks j,r∈Ke i\/r∈U.par j
 go:∀j l,b.end_=.goto j l->l.length<=2/\(U.par j).length=l.length
 br:∀c t e,b.end_=.branch c t e->U.par t=[]/\U.par e=[]
structure GU (U:Un) (o:List Nat):Prop where
 jK:Sane U
 ord:Ord U.blocks o
 nd:U.entry.Nodup
 el:U.entry.length<=2
 need:U.cJ=(U.entry.length:Int)-1
 p0:U.par 0=[]
 kn:∃Kn:List Nat,(∀(i:Nat) (b:Block),U.blocks[i]?=some b->sub (cp U Kn b) ((Kn[i]?).getD 0))/\sub ((Kn[0]?).getD 0) (b8 U.entry)/\∀(i:Nat) r,((Kn[i]?).getD 0).testBit r=true->cC U r
 defs:∀(i:Nat) (b:Block),U.blocks[i]?=some b->(∀o∈b.ops,∀r∈o.e9,cC U r)/\∀r∈b.end_.reads,cC U r
 pn:∀(i:Nat) (b:Block),U.blocks[i]?=some b->b.params.Nodup
 go:∀(i:Nat) (b:Block),U.blocks[i]?=some b->∀j l,b.end_=.goto j l->l.length<=2/\(U.par j).length=l.length
 br:∀(i:Nat) (b:Block),U.blocks[i]?=some b->∀c t e,b.end_=.branch c t e->U.par t=[]/\U.par e=[]
 ol:∀(i:Nat) (b:Block),U.blocks[i]?=some b->b.ops.length<=2
theorem qY{U:Un}{B:List Nat}{r:Nat}:∀{js:List Nat} {m:Nat},(js.foldl (λ m j=>io m (rT ((B[j]?).getD 0) (b8 (U.par j)))) m).testBit r=true↔m.testBit r=true\/∃j∈js,((B[j]?).getD 0).testBit r=true/\r∉U.par j:=by
 intro xR
 induction xR with
 |nil=>
  intro m
  exact⟨.inl,λ h=>h.elim id λ hP=>by refine aG hP λ u0 h u0=>?_;exact nomatch h⟩
 |cons j js aU=>
  intro m
  simp only[List.foldl_cons,aU,bh,ft,aJ,Bool.or_eq_true,Bool.and_eq_true,Bool.not_eq_true',decide_eq_false_iff_not]
  constructor
  ·rintro((h|h)|⟨k,hk,h⟩)
   ·exact .inl h
   ·exact .inr ⟨j,.head _,h⟩
   ·exact .inr ⟨k,.tail _ hk,h⟩
  ·rintro(h|⟨k,hk,h⟩)
   ·exact .inl (.inl h)
   ·rcases ci hk with rfl|hk
    ·exact .inl (.inr h)
    ·exact .inr ⟨k,hk,h⟩
theorem aI:(b7 U B e).testBit r=true↔r∈e.reads\/∃j∈e.blocks,((B[j]?).getD 0).testBit r=true/\r∉U.par j:=by
 unfold b7
 rw[qY,aJ,decide_eq_true_iff]
theorem wR{Ks Ke:Nat->List Nat}(O:Ord U.blocks o)(nd:U.entry.Nodup)(el:U.entry.length<=2)(need:U.cJ=(U.entry.length:Int)-1)(p0:U.par 0=[])(cnt:U.count<=900)(gy:∀r∈U.entry,r<U.count)
  (k:∀(i:Nat) (b:Block),U.blocks[i]?=some b->VW U i b Ks Ke)(k0:∀r∈Ks 0,r∈U.entry)(kd:∀(i:Nat),i<U.blocks.length->∀r∈Ks i,cC U r):GU U o:=by
 have nl:U.blocks.length<=10:=by generalize U.blocks=bs at O;cases O<;>exact eP rfl
 have ke:∀(i:Nat) (b:Block),U.blocks[i]?=some b->∀r∈Ke i,cC U r:=λ i b e r m=>by
  rcases(k i b e).mem r m with m|⟨o,ho,hr⟩
  ·exact kd i (fQ e).1 r m
  ·exact .inr ⟨i,b,e,.inr ⟨o,ho,hr⟩⟩
 have kn:∀j,j<U.blocks.length->(((List.range U.blocks.length).map λ i=>b8 (Ks i))[j]?).getD 0=b8 (Ks j):=λ j hj=>by
  rw[List.getElem?_map,List.getElem?_range hj];rfl
 refine⟨⟨cnt,nl,by exact ai [_] X0 (Nm 10) 1 X0 (Nm 2) rfl el,gy,λ i b e=>?_⟩,O,nd,el,need,p0,⟨(List.range U.blocks.length).map λ i=>b8 (Ks i),λ i b e r hr=>?_,?_,λ i r hr=>?_⟩,λ i b e=>⟨λ o m r hr=>?_,λ r m=>ke i b e r ((k i b e).en r m)⟩,λ i b e=>(k i b e).pn,λ i b e=>(k i b e).go,λ i b e=>(k i b e).br,λ i b e=>(k i b e).ol⟩
 ·have x:=k i b e
  have:=x.el
  exact⟨λ r m=>x.lt r (x.inc r (x.par r m)),cV x.pl (eP rfl),cV x.ol (eP rfl),x.ops,λ r m=>x.lt r (x.en r m),by exact ai [_] X0 (Nm 10) 1 X0 (Nm 4) rfl this,λ j m=>(x.to j m).1⟩
 ·have x:=k i b e
  have hi:=(fQ e).1
  rw[kn i hi,aJ,decide_eq_true_iff]
  refine x.lv _ (λ r hr=>?_) r hr
  rcases aI.mp hr with m|⟨j,m,h1,h2⟩
  ·exact x.en r m
  ·have t:=x.to j m
   rw[kn j t.1,aJ,decide_eq_true_iff] at h1
   exact(t.2 r h1).resolve_right h2
 ·have h0:0<U.blocks.length:=by generalize U.blocks=bs at O;cases O<;>exact eP rfl
  rw[kn 0 h0]
  intro r hr
  rw[aJ,decide_eq_true_iff] at hr⊢
  exact k0 r hr
 ·by_cases hi:i<U.blocks.length
  ·rw[kn i hi,aJ,decide_eq_true_iff] at hr
   exact kd i hi r hr
  ·rw[List.getElem?_eq_none (by rw[dR,List.length_range];exact ai [_,_] X0 X1 1 X0 X1 rfl (Nat.le_of_not_lt hi))] at hr
   simp at hr
 ·have x:=k i b e
  rcases gP hr with hr|hr
  ·exact ke i b e r (x.rd o m r hr)
  ·exact .inr ⟨i,b,e,.inr ⟨o,m,hr⟩⟩
theorem JO(h0:(0:Nat)<x0):(-((x0:Nat):Int))<=(-1:Int):=Int.neg_le_neg (Int.ofNat_le.mpr h0)
theorem JP:(Int.toNat ((-1:Int)+((x0:Nat):Int)))=(x0-(1:Nat)):=by cases x0 with
 |zero=>rfl
 |succ n=>exact Vp
theorem wn{Q:V->H->Prop}(e:x=some (some v))(q:Q v h):Fk x Q h:=by rw[e];exact q
theorem qb{Q:V->H->Prop}
  (q:∀e bs,e≠u->h e=none->bs≠u->bs≠e->h bs=none->Q .none (aC (aC (aC h u (.inst .dy [(.number,v1),(.title,v2),(.aT,v3),(.entry,.ref e),(.cJ,.int 0),(.cF,.bool false),(.free,.int 0),(.count,.int 0),(.blocks,.ref bs)])) e (.list [])) bs (.list []))):
  ah prog (n+1) .j9 [.ref u,v1,v2,v3] Q (aC h u (.inst .dy [])):=by
 refine bJ rfl ?_;refine cm (aa ..) rfl (dQ rfl) ?_;refine cm (aa ..) rfl (dQ rfl) ?_;refine cm (aa ..) rfl (dQ rfl) ?_
 rw[a9,a9,a9]
 refine bf (sm rfl) λ e he=>?_
 have e1:=aD he
 refine cm (ax (aa ..) he) rfl (dQ rfl) ?_
 rw[c6 e1.1,a9]
 refine cm (ag (aa ..) e1.1.symm) rfl (dQ rfl) ?_
 rw[c6 e1.1,a9]
 refine cm (ag (aa ..) e1.1.symm) rfl (dQ rfl) ?_
 rw[c6 e1.1,a9]
 refine cm (ag (aa ..) e1.1.symm) rfl (dQ rfl) ?_
 rw[c6 e1.1,a9]
 refine cm (ag (aa ..) e1.1.symm) rfl (dQ rfl) ?_
 rw[c6 e1.1,a9]
 refine bf (sm rfl) λ b hb=>?_
 have b1:=aD hb
 have b2:=aD b1.2
 refine cm (ax (ag (aa ..) e1.1.symm) hb) rfl (dQ rfl) ?_;refine dL (av _) ?_
 rw[c6 b2.1,c6 e1.1,a9]
 exact q e b e1.1 e1.2 b2.1 b1.1 b2.2
noncomputable def d8(hb:H)(ys:List BA)(Bs:List Block):Prop:=ys.length=Bs.length/\∀(i:Nat) (y:BA) (B:Block),ys[i]?=some y->Bs[i]?=some B->nk hb i y B
theorem d8.le(A:d8 h ys Bs)(l:Mine.le h h'):d8 h' ys Bs:=⟨A.1,λ i y B a b=>(A.2 i y B a b).le l⟩
theorem d8.snoc(A:d8 h ys Bs)(x:nk h ys.length y B):d8 h (ys++[y]) (Bs++[B]):=by
 refine⟨by simp only[eQ,eQ,A.1];rfl,λ i y' B' a b=>?_⟩
 by_cases hi:i<ys.length
 ·rw[List.getElem?_append_left hi] at a
  rw[List.getElem?_append_left (by rw[←A.1];exact hi)] at b
  exact A.2 i y' B' a b
 ·have il:=(fQ a).1
  simp only[eQ] at il
  have il:i<ys.length+1:=il
  have e:i=ys.length:=by exact dP (ai [_,_] X0 X1 1 (Pl X0 (Nm 1)) (Pl X1 (Nm 1)) rfl il) (ai [_,_] X0 X1 1 X0 X1 rfl (Nat.le_of_not_lt hi))
  subst e
  simp only[wf (bE _),Nat.sub_self] at a
  simp only[A.1,wf (bE _),Nat.sub_self] at b
  obtain rfl:=c8 a;obtain rfl:=c8 b;exact x
section
variable {hb h : H} {a : LA} {L : List Int} {i cnt : Nat} {en nd : V} {Bl : List BA}
theorem on{C:List V->H->Prop}(hf:∀v,(fr.set s (some v))[1]?=some (some (.ref a.u))):∀(m:Nat) (t:Int) (acc:List Nat) (cnt:Nat) (h:H),LU hb a L i en nd cnt Bl h->cnt+m<=1000->
  (∀h',LU hb a L i en nd (cnt+m) Bl h'->(∀x ob,x≠a.u->h x=some ob->h' x=some ob)->C (aB (acc++List.range' cnt m)) h')->
  dY s (kJ (ah prog (n+1)) lq) (wE (ah prog (n+1)) (.eF (.var 1) .fresh .nil)) (λ u0=>True) fr (dH t m) (aB acc) C h:=by
 intro xR
 induction xR with
 |zero=>
  intro t acc cnt h X _ q
  exact xZ (by have:=q h X λ u0 u0 u0 e=>e;rw[List.range'_zero,eE] at this;exact this)
 |succ m aU=>
  intro t acc cnt h X hc q
  refine qe ?_;refine wn (hf _) ?_;refine cU X.u rfl rfl ?_;refine oj X (by exact ai [_,_] X0 (Nm 1000) 1 (Pl X0 (Pl X1 (Nm 1))) (Nm 1000) rfl hc) ?_
  have ih:=aU (t+1) (acc++[cnt]) (cnt+1) _ (X.Fs (en':=en) (nd':=nd)) (by exact ai [_,_] (Pl (Pl X0 (Nm 1)) X1) (Nm 1000) 1 (Pl X0 (Pl X1 (Nm 1))) (Nm 1000) rfl hc) λ h' a1 a2=>by
   rw[d6]
   exact q h' (by rw[show cnt+(m+1)=cnt+1+m by exact dP (aL [_,_] (Pl X0 (Pl X1 (Nm 1))) (Pl (Pl X0 (Nm 1)) X1) rfl) (aL [_,_] (Pl (Pl X0 (Nm 1)) X1) (Pl X0 (Pl X1 (Nm 1))) rfl)];exact a1) λ x ob d e=>a2 x ob d (ag e d)
  simp only[bg] at ih
  exact ih
theorem Bk.fr(Y:Bk hb h a j y os e)(X:LU hb a L i en nd cnt Bl h)(f:∀x ob,x≠a.dk->h x=some ob->h' x=some ob):Bk hb h' a j y os e:=⟨f _ _ (Y.d X).1 Y.b,f _ _ Y.od Y.o,Y.b0,Y.o0,Y.od,Y.ob⟩
theorem end_{K:H->Prop}(e:End)(X:LU hb a L i en nd cnt (Bl++[y]) h)(Y:Bk hb h a Bl.length y os .none)(hp:hb y.p=some (.list (aB ps)))(A:d8 hb Bl Bs)
  (q:∀fO h',LU fO a L i en nd cnt (Bl++[y]) h'->le hb fO->d8 fO (Bl++[y]) (Bs++[⟨ps,os,e⟩])->(∀x ob,x≠y.b->h x=some ob->h' x=some ob)->(∀x,x≠y.b->x≠y.o->hb x=none->fO x=none)->K h'):yi (.ref y.b) .eZ e.v K h:=by
 have d:=Y.d X
 refine cm Y.b rfl (dQ rfl) ?_
 have aO:=X.over (o:=.inst .ct [(.number,.int Bl.length),(.params,.ref y.p),(.ops,.ref y.o),(.eZ,e.v)]) Y.b0 d.1 d.2.1 d.2.2.1
 have Ar:Bk hb (aC h y.b (.inst .ct [(.number,.int Bl.length),(.params,.ref y.p),(.ops,.ref y.o),(.eZ,e.v)])) a Bl.length y os e.v:=⟨aa ..,ag Y.o d.2.2.2.2.symm,Y.b0,Y.o0,Y.od,Y.ob⟩
 refine bV (Ar.VU aO) λ aM cq=>?_
 refine q _ _ aM cq ((A.le cq).snoc ⟨ag (aa ..) d.2.2.2.2,cq _ _ hp,aa ..⟩) (λ x ob n e=>ag e n) λ x n1 n2 e=>(bu n2).trans ((bu n1).trans e)
theorem LU.isUnit(X:LU hb a L i (.ref e) (.int z) cnt Bl h)(A:d8 hb Bl Bs)(he:hb e=some (.list (aB E))):bF h ⟨a.u,e,a.bs,Bl⟩ ⟨E,z,cnt,Bs⟩:=
 ⟨X.u,X.le _ _ he,X.bs,A.1,λ i y B p q=>(A.2 i y B p q).le X.le⟩
end
theorem L6(h0:0<K.length):∃r∈K,jH (aB K) (-1)=some (.int (r:Nat)):=by
 refine⟨K[K.length-1]'(by exact ai [_,_] (Pl X0 (Nm 1)) X1 1 (Pl X0 (Nm 1)) X1 rfl (AA (ai [_] (Nm 1) X0 1 (Pl (Nm 0) (Nm 1)) X0 rfl h0))),List.getElem_mem _,?_⟩
 unfold jH
 rw[if_neg (by decide),if_pos (by rw[ac];exact JO h0),ac,G2,show((-1:Int)+(K.length:Int)).toNat=K.length-1 by exact JP,kH (show K.length-1<K.length by exact ai [_,_] (Pl X0 (Nm 1)) X1 1 (Pl X0 (Nm 1)) X1 rfl (AA (ai [_] (Nm 1) X0 1 (Pl (Nm 0) (Nm 1)) X0 rfl h0)))]
 rfl
theorem L7(h0:0<K.length):∃r∈K,jH (aB K) 0=some (.int (r:Nat)):=by
 cases K with
 |nil=>cases h0
 |cons r K=>exact⟨r,.head _,rfl⟩
theorem hG.IW{Ks Ke:Nat->List Nat}(f:hG (Ks i) c b.ops (Ke i) c')(hc:c'<=U.count)(ol:b.ops.length<=2)(par:∀r∈b.params,r∈Ks i)(pl:b.params.length<=2)(pn:b.params.Nodup)(en:∀r∈b.end_.reads,r∈Ke i)(el:b.end_.reads.length<=4)
  (to:∀j∈b.end_.blocks,j<U.blocks.length/\∀r∈Ks j,r∈Ke i\/r∈U.par j)(go:∀j l,b.end_=.goto j l->l.length<=2/\(U.par j).length=l.length)(br:∀c t e,b.end_=.branch c t e->U.par t=[]/\U.par e=[]):VW U i b Ks Ke:=
 ⟨λ o m=>⟨(f.ops o m).1,λ r hr=>kI ((f.ops o m).2 r hr) hc⟩,λ r m=>kI (f.lt r m) hc,ol,f.mem,f.inc,f.rd,f.lv,par,pl,pn,en,el,to,go,br⟩
theorem UO{P:Nat->Block->Prop}(pa:P 0 a):∀(i:Nat) (x:Block),[a][i]?=some x->P i x
 |0,_,e=>by cases e;exact pa
theorem PT{P:Nat->Block->Prop}(pa:P 0 a)(pb:P 1 b)(pc:P 2 c)(pd:P 3 d):∀(i:Nat) (x:Block),[a,b,c,d][i]?=some x->P i x
 |0,_,e=>by cases e;exact pa
 |1,_,e=>by cases e;exact pb
 |2,_,e=>by cases e;exact pc
 |3,_,e=>by cases e;exact pd
noncomputable def Fv(ps l:List Nat):Prop:=ps.length<=2/\ps.length=l.length
theorem NS(e2:E.length<=2)(en:E.Nodup)(f0:hG E c0 Fb K0 cnt)(hc:cnt<=900)(o0:Fb.length<=2)(hr:r∈K0)(hl:∀r∈l,r∈K0)(ll:l.length<=3):GU ⟨E,(E.length:Int)-1,cnt,[⟨[],Fb,.give r l⟩]⟩ [0]:=by
 refine wR (Ks:=λ u0=>E) (Ke:=λ u0=>K0) (.one rfl) en e2 rfl rfl hc (λ r m=>f0.lt r (f0.inc r m)) (UO ?_) (λ u0 m=>m) λ i u0 r m=> .inl m
 refine f0.IW (bE _) o0 (λ u0 m=>nomatch m) (dz _) .nil (λ x m=>?_) ?_ (λ u0 m=>nomatch m) (λ u0 u0 e=>nomatch e) (λ u0 u0 u0 e=>nomatch e)
 ·rcases ci m with rfl|m
  ·exact hr
  ·exact hl x m
 ·exact jj ll
noncomputable def AD(a b c d:List Nat):Nat->List Nat
 |0=>a
 |1=>b
 |2=>c
 |_=>d
theorem C7{P:Nat->Prop}(pa:∀x∈a,P x)(pb:∀x∈b,P x)(pc:∀x∈c,P x)(pd:∀x∈d,P x):∀i,i<n->∀x∈AD a b c d i,P x
 |0,_=>pa
 |1,_=>pb
 |2,_=>pc
 |_+3,_=>pd
theorem qp{i c c':Nat}(e:U.blocks[i]?=some b)(f:hG K c b.ops K' c')(h:∀r∈K,cC U r):∀r∈K',cC U r:=λ r m=>by
 rcases f.mem r m with m|⟨o,ho,hr⟩
 ·exact h r m
 ·exact .inr ⟨i,b,e,.inr ⟨o,ho,hr⟩⟩
theorem JQ(Tc:E.length<=2)(en:E.Nodup)(f0:hG E c0 Fb K0 c1)(f1:hG K0 d1 IX K1 d2)(f2:hG K0 e1 IY K2 e2)(f3:hG (K0++ps) g1 Lx K3 g2)
  (hc:cnt<=900)(CM:c1<=cnt/\d2<=cnt/\e2<=cnt/\g2<=cnt)(o0:Fb.length<=2)(o1:IX.length<=2)(o2:IY.length<=2)(o3:Lx.length<=2)(pn:ps.Nodup)(i1:Fv ps l1)(i2:Fv ps l2)(hr:r∈K0)(h1:∀r∈l1,r∈K1)(h2:∀r∈l2,r∈K2)(hf:f∈K3)(hk:k∈K3)(h3:∀r∈l3,r∈K3)(ll:l3.length<=2):
  GU ⟨E,(E.length:Int)-1,cnt,[⟨[],Fb,.branch r 1 2⟩,⟨[],IX,.goto 3 l1⟩,⟨[],IY,.goto 3 l2⟩,⟨ps,Lx,.call f k l3⟩]⟩ [0,1,3,2]:=by
 refine wR (Ks:=AD E K0 K0 (K0++ps)) (Ke:=AD K0 K1 K2 K3) (.join rfl rfl rfl rfl) en Tc rfl rfl hc (λ r m=>kI (f0.lt r (f0.inc r m)) CM.1) (PT ?_ ?_ ?_ ?_) (λ u0 m=>m) ?_
 ·refine f0.IW CM.1 o0 (λ u0 m=>nomatch m) (dz _) .nil (λ x m=>by cases cP m;exact hr) (eP rfl) (λ j m=>?_) (λ u0 u0 e=>nomatch e) (λ c t e x=>by cases x;exact⟨rfl,rfl⟩)
  rcases ci m with rfl|m
  ·exact⟨eP rfl,λ r m=> .inl m⟩
  ·cases cP m;exact⟨eP rfl,λ r m=> .inl m⟩
 ·refine hG.IW (i:=1) f1 CM.2.1 o1 (λ u0 m=>nomatch m) (dz _) .nil h1 (RY i1.1 i1.2) (λ j m=>?_) (λ j l x=>?_) (λ u0 u0 u0 e=>nomatch e)
  ·cases cP m
   exact⟨eP rfl,λ r m=>(gP m).imp (f1.inc r) id⟩
  ·cases x;exact⟨by rw[←i1.2];exact i1.1,i1.2⟩
 ·refine hG.IW (i:=2) f2 CM.2.2.1 o2 (λ u0 m=>nomatch m) (dz _) .nil h2 (RY i2.1 i2.2) (λ j m=>?_) (λ j l x=>?_) (λ u0 u0 u0 e=>nomatch e)
  ·cases cP m
   exact⟨eP rfl,λ r m=>(gP m).imp (f2.inc r) id⟩
  ·cases x;exact⟨by rw[←i2.2];exact i2.1,i2.2⟩
 ·refine hG.IW (i:=3) f3 CM.2.2.2 o3 (λ r m=>mA _ m) i1.1 pn (λ x m=>?_) ?_ (λ u0 m=>nomatch m) (λ u0 u0 e=>nomatch e) (λ u0 u0 u0 e=>nomatch e)
  ·rcases ci m with rfl|m
   ·exact hf
   ·rcases ci m with rfl|m
    ·exact hk
    ·exact h3 x m
  ·exact jj (jj ll)
 ·refine C7 (λ u0 m=> .inl m) (qp (i:=0) rfl f0 λ u0 m=> .inl m) (qp (i:=0) rfl f0 λ u0 m=> .inl m) λ x m=>?_
  rcases gP m with m|m
  ·exact qp (i:=0) rfl f0 (λ u0 m=> .inl m) x m
  ·exact .inr ⟨3,_,rfl,.inl m⟩
theorem JR(Tc:E.length<=2)(en:E.Nodup)(f0:hG E c0 Fb K0 c1)(f1:hG (K0++ps) d1 IX K1 d2)(f2:hG K1 e1 IY K2 e2)(f3:hG K1 g1 Lx K3 g2)
  (hc:cnt<=900)(CM:c1<=cnt/\d2<=cnt/\e2<=cnt/\g2<=cnt)(o0:Fb.length<=2)(o1:IX.length<=2)(o2:IY.length<=2)(o3:Lx.length<=2)(pn:ps.Nodup)(i0:Fv ps l0)(i2:Fv ps l2)(hr:r∈K1)(h0:∀r∈l0,r∈K0)(h2:∀r∈l2,r∈K2)(hf:f∈K3)(h3:∀r∈l3,r∈K3)(ll:l3.length<=3):
  GU ⟨E,(E.length:Int)-1,cnt,[⟨[],Fb,.goto 1 l0⟩,⟨ps,IX,.branch r 2 3⟩,⟨[],IY,.goto 1 l2⟩,⟨[],Lx,.give f l3⟩]⟩ [0,1,2,3]:=by
 refine wR (Ks:=AD E (K0++ps) K1 K1) (Ke:=AD K0 K1 K2 K3) (.loop rfl rfl rfl rfl) en Tc rfl rfl hc (λ r m=>kI (f0.lt r (f0.inc r m)) CM.1) (PT ?_ ?_ ?_ ?_) (λ u0 m=>m) ?_
 ·refine f0.IW CM.1 o0 (λ u0 m=>nomatch m) (dz _) .nil h0 (RY i0.1 i0.2) (λ j m=>?_) (λ j l x=>?_) (λ u0 u0 u0 e=>nomatch e)
  ·cases cP m
   exact⟨eP rfl,λ r m=>gP m⟩
  ·cases x;exact⟨by rw[←i0.2];exact i0.1,i0.2⟩
 ·refine hG.IW (i:=1) f1 CM.2.1 o1 (λ r m=>mA _ m) i0.1 pn (λ x m=>by cases cP m;exact hr) (eP rfl) (λ j m=>?_) (λ u0 u0 e=>nomatch e) (λ c t e x=>by cases x;exact⟨rfl,rfl⟩)
  rcases ci m with rfl|m
  ·exact⟨eP rfl,λ r m=> .inl m⟩
  ·cases cP m;exact⟨eP rfl,λ r m=> .inl m⟩
 ·refine hG.IW (i:=2) f2 CM.2.2.1 o2 (λ u0 m=>nomatch m) (dz _) .nil h2 (RY i2.1 i2.2) (λ j m=>?_) (λ j l x=>?_) (λ u0 u0 u0 e=>nomatch e)
  ·cases cP m
   exact⟨eP rfl,λ r m=> .inl (f2.inc r (f1.inc r m))⟩
  ·cases x;exact⟨by rw[←i2.2];exact i2.1,i2.2⟩
 ·refine hG.IW (i:=3) f3 CM.2.2.2 o3 (λ u0 m=>nomatch m) (dz _) .nil (λ x m=>?_) ?_ (λ u0 m=>nomatch m) (λ u0 u0 e=>nomatch e) (λ u0 u0 u0 e=>nomatch e)
  ·rcases ci m with rfl|m
   ·exact hf
   ·exact h3 x m
  ·exact jj ll
 ·have k1:∀x∈K0++ps,cC ⟨E,(E.length:Int)-1,cnt,[⟨[],Fb,.goto 1 l0⟩,⟨ps,IX,.branch r 2 3⟩,⟨[],IY,.goto 1 l2⟩,⟨[],Lx,.give f l3⟩]⟩ x:=λ x m=>by
   rcases gP m with m|m
   ·exact qp (i:=0) rfl f0 (λ u0 m=> .inl m) x m
   ·exact .inr ⟨1,_,rfl,.inl m⟩
  exact C7 (λ u0 m=> .inl m) k1 (qp (i:=1) rfl f1 k1) (qp (i:=1) rfl f1 k1)
theorem JS(h0:(0:Nat)<x0)(h1:(x0<=x1/\x1<=(x0+((2:Nat)*x2)))):(0:Nat)<x1:=ai [x1,x0,x2] (Pl (Nm 0) (Nm 1)) X0 1 (Pl (Pl (Nm 0) (Nm 1)) X1) (Pl X1 X0) rfl (bQ h0 h1.1)
section
variable {hb h : H} {a : LA} {L : List Int} {i cnt : Nat} {en nd : V} {Bl : List BA}
theorem No{n k p least:Nat}{Q:V->H->Prop}(X:LU hb a L i en nd cnt Bl h)(hk:h k=some (.list (aB K)))(k0:hb k=none)(hp:h p=none)(h0:0<K.length)(h1:K.length<=50)(pl:ps.length<=2)(hc:cnt<=90)(hi:i<=160)(hl:least<=1)(hB:Bl.length<=5)(hK:∀r∈K++ps,r<cnt)
  (q:∀fO y os K' i' cnt' h',le hb fO->fO y.p=some (.list (aB ps))->fO k=none->hG (K++ps) cnt os K' cnt'->os.length<=2->i'<=i+9->LU fO a L i' en nd cnt' (Bl++[y]) h'->Bk fO h' a Bl.length y os .none->h' k=some (.list (aB K'))->k≠y.b->k≠y.o->Q (.ref y.b) h'):
  ah prog (n+3) .dS [.ref a.dk,.ref a.u,.ref k,.ref p,.int least] Q (aC h p (.list (aB ps))):=by
 have p0:=bn X.le hp
 have kp:=aj hk hp
 have aO:=(X.grow (aA (o:=.list (aB ps)) hp)).add (aa ..) p0 (aj X.dk hp).symm (aj X.u hp).symm (aj X.bs hp).symm
 refine uw aO (ax hk hp) ((bu kp).trans k0) (aa ..) h0 h1 pl hc hi hl hB hK λ y os K' i' cnt' h' e1 e2 e3 e4 e5 e6 e7 e8=>?_
 exact q _ y os K' i' cnt' h' (aA p0) (by rw[e1];exact aa ..) ((bu kp).trans k0) (e2.facts hK) e3 e4 e5 e6 e7 (λ e=>by simp only[e,e6.b] at e7;cases e7) e8
theorem Cf{n k least:Nat}{Q:V->H->Prop}(X:LU hb a L i en nd cnt Bl h)(hk:h k=some (.list (aB K)))(k0:hb k=none)(h0:0<K.length)(h1:K.length<=50)(hc:cnt<=90)(hi:i<=160)(hl:least<=1)(hB:Bl.length<=5)(hK:∀r∈K,r<cnt)
  (q:∀fO y os K' i' cnt' h',le hb fO->fO y.p=some (.list (aB []))->fO k=none->hG K cnt os K' cnt'->os.length<=2->i'<=i+9->LU fO a L i' en nd cnt' (Bl++[y]) h'->Bk fO h' a Bl.length y os .none->h' k=some (.list (aB K'))->k≠y.b->k≠y.o->Q (.ref y.b) h'):
  iL [] (λ v h=>ah prog (n+3) .dS [.ref a.dk,.ref a.u,.ref k,v,.int least] Q h) h:=by
 refine bf (sm rfl) λ p hp=>?_
 refine No (ps:=[]) X hk k0 hp h0 h1 (dz _) hc hi hl hB (by rw[eE];exact hK) λ fO y os K' i' cnt' h' e1 e2 e3 e4=>?_
 rw[eE] at e4
 exact q fO y os K' i' cnt' h' e1 e2 e3 e4
theorem PW{n k m:Nat}{C:Out->Fr->H->Prop}(X:LU hb a L i en nd cnt Bl h)(hk:hb k=some (.list (aB K)))(A:d8 hb Bl Bs)(h0:0<K.length)(h1:K.length<=40)(hc:cnt<=80)(hi:i<=150)(hB:Bl.length<=5)(hK:∀r∈K,r<cnt)(hm:m<=2)
  (q:∀fO y os l K' i' cnt' h' s7 s8,le hb fO->d8 fO (Bl++[y]) (Bs++[⟨[],os,.goto 3 l⟩])->hG K cnt os K' cnt'->os.length<=2->l.length=m->(∀r∈l,r∈K')->i'<=i+11->LU fO a L i' en nd cnt' (Bl++[y]) h'->C .next [some (.ref a.dk),some (.ref a.u),some (.ref k),s3,s4,some (.int m),s6,s7,s8,none,none,none,none,none,none,none] h'):
  wB (ah prog (n+3)) nG [some (.ref a.dk),some (.ref a.u),some (.ref k),s3,s4,some (.int m),s6,s7,s8,none,none,none,none,none,none,none] C h:=by
 have ks:(aB K).length<aZ:=by rw[ac];exact cO h1 (by decide)
 refine sR (X.le _ _ hk) ks λ k1 OD=>?_
 have aO:=X.grow (aA (o:=.list (aB K)) OD)
 refine Cf (n:=n) (least:=0) aO (aa ..) (bn X.le OD) h0 (by exact ai [_] X0 (Nm 50) 1 X0 (Nm 40) rfl h1) (by exact ai [_] X0 (Nm 90) 1 X0 (Nm 80) rfl hc) (by exact ai [_] X0 (Nm 160) 1 X0 (Nm 150) rfl hi) (dz _) hB hK λ fO y os K' i' cnt' h' bI e2 e3 f e5 e6 aM sP lE YQ YR=>?_
 have fl:=f.len
 refine dW aM lE (by exact JS h0 fl) (by exact fH [_,_,_] X0 (Nm 100) 1 X1 (Nm 40) 2 X2 (Nm 2) 1 X0 (Pl X1 (Ml 2 X2)) rfl h1 e5 fl.2) (cV hm (by decide)) (by exact aS [_,_] X0 (Nm 190) 1 X1 (Nm 150) 1 X0 (Pl X1 (Nm 9)) rfl hi e6) λ l fv ll lK bG fr=>?_
 have Fu:=sP.fr aM fr
 refine bT (sm rfl) ?_;refine end_ (.goto 3 l) bG Fu e2 (A.le bI) λ UP k8 fI cq Fx u0 u0=>?_
 exact q UP y os l K' _ cnt' k8 _ _ (aF bI cq) Fx f e5 ll lK (by exact aS [_,_,_] (Pl X0 X1) (Pl X2 (Nm 11)) 1 X1 (Nm 2) 1 X0 (Pl X2 (Nm 9)) rfl hm e6) fI
end
theorem C8(h0:x0<x1)(h1:(x1<=x2/\x2<=(x1+((2:Nat)*x3)))):(0:Nat)<x2:=ai [x2,x0,x1,x3] (Pl (Nm 0) (Nm 1)) X0 1 (Pl (Pl X1 (Nm 1)) X2) (Pl X2 X0) rfl (bQ h0 h1.1)
theorem gW(h0:(0:Nat)<x0)(h1:(x0<=x1/\x1<=(x0+((2:Nat)*x2)))):(0:Nat)<x1:=ai [x1,x0,x2] (Pl (Nm 0) (Nm 1)) X0 1 (Pl (Pl (Nm 0) (Nm 1)) X1) (Pl X1 X0) rfl (bQ h0 h1.1)
theorem JT(h0:x0<=(2:Nat))(h1:x1<=(2:Nat))(h2:(x0<=x2/\x2<=(x0+((2:Nat)*x1))))(h3:x3<=(2:Nat))(h4:(x2<=x4/\x4<=(x2+((2:Nat)*x3)))):x4<=(80:Nat):=ai [x4,x0,x1,x2,x3] X0 (Nm 80) 1 (Pl (Pl (Pl (Pl X1 (Ml 2 X2)) X3) (Ml 2 X4)) X0) (Pl (Pl (Pl (Pl (Nm 2) (Ml 2 (Nm 2))) (Pl X1 (Ml 2 X2))) (Ml 2 (Nm 2))) (Pl X3 (Ml 2 X4))) rfl (bQ (bQ (bQ (bQ h0 (iJ 2 h1)) h2.2) (iJ 2 h3)) h4.2)
theorem JU(h0:x0<=(2:Nat))(h1:x1<=(2:Nat))(h2:(x0<=x2/\x2<=(x0+((2:Nat)*x1))))(h3:x3<(2:Nat))(h4:x4<=(2:Nat))(h5:(x2<=x5/\x5<=(x2+((2:Nat)*x4))))(h6:x6<=(2:Nat))(h7:(x5<=x7/\x7<=(x5+((2:Nat)*x6)))):(x7+((1:Nat)+x3))<=(1000:Nat):=ai [x7,x3,x0,x1,x2,x4,x5,x6] (Pl X0 (Pl (Nm 1) X1)) (Nm 1000) 1 (Pl (Pl (Pl (Pl (Pl (Pl (Pl X2 (Ml 2 X3)) X4) (Pl X1 (Nm 1))) (Ml 2 X5)) X6) (Ml 2 X7)) X0) (Pl (Pl (Pl (Pl (Pl (Pl (Pl (Nm 2) (Ml 2 (Nm 2))) (Pl X2 (Ml 2 X3))) (Nm 2)) (Ml 2 (Nm 2))) (Pl X4 (Ml 2 X5))) (Ml 2 (Nm 2))) (Pl X6 (Ml 2 X7))) rfl (bQ (bQ (bQ (bQ (bQ (bQ (bQ h0 (iJ 2 h1)) h2.2) h3) (iJ 2 h4)) h5.2) (iJ 2 h6)) h7.2)
theorem JV(h0:x0<=(2:Nat))(h1:x1<=(2:Nat))(h2:(x0<=x2/\x2<=(x0+((2:Nat)*x1))))(h3:x3<(2:Nat))(h4:x4<=(2:Nat))(h5:(x2<=x5/\x5<=(x2+((2:Nat)*x4))))(h6:x6<=(2:Nat))(h7:(x5<=x7/\x7<=(x5+((2:Nat)*x6)))):(x7+((1:Nat)+x3))<=(90:Nat):=ai [x7,x3,x0,x1,x2,x4,x5,x6] (Pl X0 (Pl (Nm 1) X1)) (Nm 90) 1 (Pl (Pl (Pl (Pl (Pl (Pl (Pl X2 (Ml 2 X3)) X4) (Pl X1 (Nm 1))) (Ml 2 X5)) X6) (Ml 2 X7)) X0) (Pl (Pl (Pl (Pl (Pl (Pl (Pl (Nm 2) (Ml 2 (Nm 2))) (Pl X2 (Ml 2 X3))) (Nm 2)) (Ml 2 (Nm 2))) (Pl X4 (Ml 2 X5))) (Ml 2 (Nm 2))) (Pl X6 (Ml 2 X7))) rfl (bQ (bQ (bQ (bQ (bQ (bQ (bQ h0 (iJ 2 h1)) h2.2) h3) (iJ 2 h4)) h5.2) (iJ 2 h6)) h7.2)
theorem JW(h0:(x0<=x1/\x1<=(x0+((2:Nat)*x2))))(h1:(x1<=x3/\x3<=(x1+((2:Nat)*x4))))(h2:x5<x0):x5<(x3+((1:Nat)+x6)):=ai [x5,x3,x6,x0,x1,x2,x4] (Pl X0 (Nm 1)) (Pl X1 (Pl (Nm 1) X2)) 1 (Pl (Pl X3 X4) (Pl X0 (Nm 1))) (Pl (Pl X4 X1) X3) rfl (bQ (bQ h0.1 h1.1) h2)
theorem iS(h0:x0=((1:Nat)+x1))(h1:((x2+x0)<=x3/\x3<=((x2+x0)+((2:Nat)*x4)))):(0:Nat)<x3:=ai [x3,x0,x1,x2,x4] (Pl (Nm 0) (Nm 1)) X0 1 (Pl (Pl (Nm 1) X2) (Pl X3 X1)) (Pl X1 X0) rfl (bQ (bw h0.symm) h1.1)
theorem C9(h0:x0<=(2:Nat))(h1:x1<=(2:Nat))(h2:(x0<=x2/\x2<=(x0+((2:Nat)*x1))))(h3:x3<(2:Nat))(h4:x4=((1:Nat)+x3))(h5:x5<=(2:Nat))(h6:((x2+x4)<=x6/\x6<=((x2+x4)+((2:Nat)*x5)))):x6<=(100:Nat):=ai [x6,x0,x1,x2,x3,x4,x5] X0 (Nm 100) 1 (Pl (Pl (Pl (Pl (Pl (Pl X1 (Ml 2 X2)) X3) (Pl X4 (Nm 1))) X5) (Ml 2 X6)) X0) (Pl (Pl (Pl (Pl (Pl (Pl (Nm 2) (Ml 2 (Nm 2))) (Pl X1 (Ml 2 X2))) (Nm 2)) (Pl (Nm 1) X4)) (Ml 2 (Nm 2))) (Pl (Pl X3 X5) (Ml 2 X6))) rfl (bQ (bQ (bQ (bQ (bQ (bQ h0 (iJ 2 h1)) h2.2) h3) (bw h4)) (iJ 2 h5)) h6.2)
theorem JX(h0:x0<=(2:Nat))(h1:x1<=(2:Nat))(h2:(x0<=x2/\x2<=(x0+((2:Nat)*x1))))(h3:x3<(2:Nat))(h4:x4<=(2:Nat))(h5:(x2<=x5/\x5<=(x2+((2:Nat)*x4))))(h6:x6<=(2:Nat))(h7:(x5<=x7/\x7<=(x5+((2:Nat)*x6))))(h8:x8<=(2:Nat))(h9:((x7+((1:Nat)+x3))<=x9/\x9<=((x7+((1:Nat)+x3))+((2:Nat)*x8)))):x9<=(900:Nat):=ai [x9,x0,x1,x2,x3,x4,x5,x6,x7,x8] X0 (Nm 900) 1 (Pl (Pl (Pl (Pl (Pl (Pl (Pl (Pl (Pl X1 (Ml 2 X2)) X3) (Pl X4 (Nm 1))) (Ml 2 X5)) X6) (Ml 2 X7)) (.X 8)) (Ml 2 (.X 9))) X0) (Pl (Pl (Pl (Pl (Pl (Pl (Pl (Pl (Pl (Nm 2) (Ml 2 (Nm 2))) (Pl X1 (Ml 2 X2))) (Nm 2)) (Ml 2 (Nm 2))) (Pl X3 (Ml 2 X5))) (Ml 2 (Nm 2))) (Pl X6 (Ml 2 X7))) (Ml 2 (Nm 2))) (Pl (Pl (.X 8) (Pl (Nm 1) X4)) (Ml 2 (.X 9)))) rfl (bQ (bQ (bQ (bQ (bQ (bQ (bQ (bQ (bQ h0 (iJ 2 h1)) h2.2) h3) (iJ 2 h4)) h5.2) (iJ 2 h6)) h7.2) (iJ 2 h8)) h9.2)
theorem JY(h0:(x0<=x1/\x1<=(x0+((2:Nat)*x2))))(h1:(x1<=x3/\x3<=(x1+((2:Nat)*x4))))(h2:((x3+((1:Nat)+x5))<=x6/\x6<=((x3+((1:Nat)+x5))+((2:Nat)*x7)))):x0<=x6:=ai [x0,x6,x1,x2,x3,x4,x5,x7] X0 X1 1 (Pl (Pl X0 X2) (Pl X4 (Pl (Nm 1) X6))) (Pl (Pl X2 X4) X1) rfl (bQ (bQ h0.1 h1.1) h2.1)
theorem Hc(h0:(x0<=x1/\x1<=(x0+((2:Nat)*x2))))(h1:((x1+((1:Nat)+x3))<=x4/\x4<=((x1+((1:Nat)+x3))+((2:Nat)*x5)))):x0<=x4:=ai [x0,x4,x1,x2,x3,x5] X0 X1 1 (Pl X0 (Pl X2 (Pl (Nm 1) X4))) (Pl X2 X1) rfl (bQ h0.1 h1.1)
theorem Hd(h0:((x0+((1:Nat)+x1))<=x2/\x2<=((x0+((1:Nat)+x1))+((2:Nat)*x3)))):x0<=x2:=ai [x0,x2,x1,x3] X0 X1 1 (Pl X0 (Pl (Nm 1) X2)) X1 rfl h0.1
theorem He(h0:x0<=(2:Nat))(h1:x1<=(2:Nat))(h2:(x0<=x2/\x2<=(x0+((2:Nat)*x1))))(h3:x3<(2:Nat)):(x2+((1:Nat)+x3))<=(1000:Nat):=ai [x2,x3,x0,x1] (Pl X0 (Pl (Nm 1) X1)) (Nm 1000) 1 (Pl (Pl (Pl X2 (Ml 2 X3)) X0) (Pl X1 (Nm 1))) (Pl (Pl (Pl (Nm 2) (Ml 2 (Nm 2))) (Pl X2 (Ml 2 X3))) (Nm 2)) rfl (bQ (bQ (bQ h0 (iJ 2 h1)) h2.2) h3)
theorem Hf(h0:x0<=(2:Nat))(h1:x1<=(2:Nat))(h2:(x0<=x2/\x2<=(x0+((2:Nat)*x1))))(h3:x3<(2:Nat)):(x2+((1:Nat)+x3))<=(90:Nat):=ai [x2,x3,x0,x1] (Pl X0 (Pl (Nm 1) X1)) (Nm 90) 1 (Pl (Pl (Pl X2 (Ml 2 X3)) X0) (Pl X1 (Nm 1))) (Pl (Pl (Pl (Nm 2) (Ml 2 (Nm 2))) (Pl X2 (Ml 2 X3))) (Nm 2)) rfl (bQ (bQ (bQ h0 (iJ 2 h1)) h2.2) h3)
theorem Hg(h0:x0<=(2:Nat))(h1:x1<=(2:Nat))(h2:(x0<=x2/\x2<=(x0+((2:Nat)*x1))))(h3:x3<(2:Nat))(h4:x4=((1:Nat)+x3))(h5:x5<=(2:Nat))(h6:((x2+x4)<=x6/\x6<=((x2+x4)+((2:Nat)*x5)))):x6<=(1000:Nat):=ai [x6,x0,x1,x2,x3,x4,x5] X0 (Nm 1000) 1 (Pl (Pl (Pl (Pl (Pl (Pl X1 (Ml 2 X2)) X3) (Pl X4 (Nm 1))) X5) (Ml 2 X6)) X0) (Pl (Pl (Pl (Pl (Pl (Pl (Nm 2) (Ml 2 (Nm 2))) (Pl X1 (Ml 2 X2))) (Nm 2)) (Pl (Nm 1) X4)) (Ml 2 (Nm 2))) (Pl (Pl X3 X5) (Ml 2 X6))) rfl (bQ (bQ (bQ (bQ (bQ (bQ h0 (iJ 2 h1)) h2.2) h3) (bw h4)) (iJ 2 h5)) h6.2)
theorem Hh(h0:x0<=(2:Nat))(h1:x1<=(2:Nat))(h2:(x0<=x2/\x2<=(x0+((2:Nat)*x1))))(h3:x3<(2:Nat))(h4:x4=((1:Nat)+x3))(h5:x5<=(2:Nat))(h6:((x2+x4)<=x6/\x6<=((x2+x4)+((2:Nat)*x5)))):x6<=(50:Nat):=ai [x6,x0,x1,x2,x3,x4,x5] X0 (Nm 50) 1 (Pl (Pl (Pl (Pl (Pl (Pl X1 (Ml 2 X2)) X3) (Pl X4 (Nm 1))) X5) (Ml 2 X6)) X0) (Pl (Pl (Pl (Pl (Pl (Pl (Nm 2) (Ml 2 (Nm 2))) (Pl X1 (Ml 2 X2))) (Nm 2)) (Pl (Nm 1) X4)) (Ml 2 (Nm 2))) (Pl (Pl X3 X5) (Ml 2 X6))) rfl (bQ (bQ (bQ (bQ (bQ (bQ h0 (iJ 2 h1)) h2.2) h3) (bw h4)) (iJ 2 h5)) h6.2)
theorem Hj(h0:x0<=(2:Nat))(h1:x1<=(2:Nat))(h2:(x0<=x2/\x2<=(x0+((2:Nat)*x1))))(h3:x3<(2:Nat))(h4:x4<=(2:Nat))(h5:((x2+((1:Nat)+x3))<=x5/\x5<=((x2+((1:Nat)+x3))+((2:Nat)*x4)))):x5<=(90:Nat):=ai [x5,x0,x1,x2,x3,x4] X0 (Nm 90) 1 (Pl (Pl (Pl (Pl (Pl X1 (Ml 2 X2)) X3) (Pl X4 (Nm 1))) (Ml 2 X5)) X0) (Pl (Pl (Pl (Pl (Pl (Nm 2) (Ml 2 (Nm 2))) (Pl X1 (Ml 2 X2))) (Nm 2)) (Ml 2 (Nm 2))) (Pl (Pl X3 (Pl (Nm 1) X4)) (Ml 2 X5))) rfl (bQ (bQ (bQ (bQ (bQ h0 (iJ 2 h1)) h2.2) h3) (iJ 2 h4)) h5.2)
theorem Hk(h0:(x0<=x1/\x1<=(x0+((2:Nat)*x2))))(h1:x3=((1:Nat)+x4))(h2:((x1+x3)<=x5/\x5<=((x1+x3)+((2:Nat)*x6)))):x0<x5:=ai [x0,x5,x1,x2,x3,x4,x6] (Pl X0 (Nm 1)) X1 1 (Pl (Pl X0 (Pl (Nm 1) X5)) (Pl X2 X4)) (Pl (Pl X2 X4) X1) rfl (bQ (bQ h0.1 (bw h1.symm)) h2.1)
theorem Hl(h0:x0<=(2:Nat))(h1:x1<=(2:Nat))(h2:(x0<=x2/\x2<=(x0+((2:Nat)*x1))))(h3:x3<(2:Nat))(h4:x4=((1:Nat)+x3))(h5:x5<=(2:Nat))(h6:((x2+x4)<=x6/\x6<=((x2+x4)+((2:Nat)*x5)))):x6<=(40:Nat):=ai [x6,x0,x1,x2,x3,x4,x5] X0 (Nm 40) 1 (Pl (Pl (Pl (Pl (Pl (Pl X1 (Ml 2 X2)) X3) (Pl X4 (Nm 1))) X5) (Ml 2 X6)) X0) (Pl (Pl (Pl (Pl (Pl (Pl (Nm 2) (Ml 2 (Nm 2))) (Pl X1 (Ml 2 X2))) (Nm 2)) (Pl (Nm 1) X4)) (Ml 2 (Nm 2))) (Pl (Pl X3 X5) (Ml 2 X6))) rfl (bQ (bQ (bQ (bQ (bQ (bQ h0 (iJ 2 h1)) h2.2) h3) (bw h4)) (iJ 2 h5)) h6.2)
theorem Hm(h0:x0<=(2:Nat))(h1:x1<=(2:Nat))(h2:(x0<=x2/\x2<=(x0+((2:Nat)*x1))))(h3:x3<(2:Nat))(h4:x4<=(2:Nat))(h5:((x2+((1:Nat)+x3))<=x5/\x5<=((x2+((1:Nat)+x3))+((2:Nat)*x4))))(h6:x6<=(2:Nat))(h7:(x5<=x7/\x7<=(x5+((2:Nat)*x6)))):x7<=(80:Nat):=ai [x7,x0,x1,x2,x3,x4,x5,x6] X0 (Nm 80) 1 (Pl (Pl (Pl (Pl (Pl (Pl (Pl X1 (Ml 2 X2)) X3) (Pl X4 (Nm 1))) (Ml 2 X5)) X6) (Ml 2 X7)) X0) (Pl (Pl (Pl (Pl (Pl (Pl (Pl (Nm 2) (Ml 2 (Nm 2))) (Pl X1 (Ml 2 X2))) (Nm 2)) (Ml 2 (Nm 2))) (Pl (Pl X3 (Pl (Nm 1) X4)) (Ml 2 X5))) (Ml 2 (Nm 2))) (Pl X6 (Ml 2 X7))) rfl (bQ (bQ (bQ (bQ (bQ (bQ (bQ h0 (iJ 2 h1)) h2.2) h3) (iJ 2 h4)) h5.2) (iJ 2 h6)) h7.2)
theorem Hn(h0:(0:Nat)<x0)(h1:(x0<=x1/\x1<=(x0+((2:Nat)*x2))))(h2:((x1+x3)<=x4/\x4<=((x1+x3)+((2:Nat)*x5)))):x3<x4:=ai [x3,x4,x0,x1,x2,x5] (Pl X0 (Nm 1)) X1 1 (Pl (Pl (Pl (Nm 0) (Nm 1)) X2) (Pl X3 X0)) (Pl (Pl X2 X3) X1) rfl (bQ (bQ h0 h1.1) h2.1)
theorem Ho(h0:x0<=(2:Nat))(h1:x1<=(2:Nat))(h2:(x0<=x2/\x2<=(x0+((2:Nat)*x1))))(h3:x3<(2:Nat))(h4:x4<=(2:Nat))(h5:((x2+((1:Nat)+x3))<=x5/\x5<=((x2+((1:Nat)+x3))+((2:Nat)*x4))))(h6:x6<=(2:Nat))(h7:(x5<=x7/\x7<=(x5+((2:Nat)*x6))))(h8:x8<=(2:Nat))(h9:(x7<=x9/\x9<=(x7+((2:Nat)*x8)))):x9<=(900:Nat):=ai [x9,x0,x1,x2,x3,x4,x5,x6,x7,x8] X0 (Nm 900) 1 (Pl (Pl (Pl (Pl (Pl (Pl (Pl (Pl (Pl X1 (Ml 2 X2)) X3) (Pl X4 (Nm 1))) (Ml 2 X5)) X6) (Ml 2 X7)) (.X 8)) (Ml 2 (.X 9))) X0) (Pl (Pl (Pl (Pl (Pl (Pl (Pl (Pl (Pl (Nm 2) (Ml 2 (Nm 2))) (Pl X1 (Ml 2 X2))) (Nm 2)) (Ml 2 (Nm 2))) (Pl (Pl X3 (Pl (Nm 1) X4)) (Ml 2 X5))) (Ml 2 (Nm 2))) (Pl X6 (Ml 2 X7))) (Ml 2 (Nm 2))) (Pl (.X 8) (Ml 2 (.X 9)))) rfl (bQ (bQ (bQ (bQ (bQ (bQ (bQ (bQ (bQ h0 (iJ 2 h1)) h2.2) h3) (iJ 2 h4)) h5.2) (iJ 2 h6)) h7.2) (iJ 2 h8)) h9.2)
theorem Hp(h0:((x0+((1:Nat)+x1))<=x2/\x2<=((x0+((1:Nat)+x1))+((2:Nat)*x3))))(h1:(x2<=x4/\x4<=(x2+((2:Nat)*x5))))(h2:(x4<=x6/\x6<=(x4+((2:Nat)*x7)))):x0<=x6:=ai [x0,x6,x1,x2,x3,x4,x5,x7] X0 X1 1 (Pl (Pl (Pl X0 (Pl (Nm 1) X2)) X3) X5) (Pl (Pl X3 X5) X1) rfl (bQ (bQ h0.1 h1.1) h2.1)
theorem Hq(h0:(x0<=x1/\x1<=(x0+((2:Nat)*x2))))(h1:(x1<=x3/\x3<=(x1+((2:Nat)*x4)))):x0<=x3:=ai [x0,x3,x1,x2,x4] X0 X1 1 (Pl X0 X2) (Pl X2 X1) rfl (bQ h0.1 h1.1)
theorem Hr(h0:(x0<=x1/\x1<=(x0+((2:Nat)*x2)))):x0<=x1:=ai [x0,x1,x2] X0 X1 1 X0 X1 rfl h0.1
theorem Hs(h0:x0=((1:Nat)+x1))(h1:((x2+x0)<=x3/\x3<=((x2+x0)+((2:Nat)*x4))))(h2:(x3<=x5/\x5<=(x3+((2:Nat)*x6)))):(0:Nat)<x5:=ai [x5,x0,x1,x2,x3,x4,x6] (Pl (Nm 0) (Nm 1)) X0 1 (Pl (Pl (Pl (Nm 1) X2) (Pl X3 X1)) X4) (Pl (Pl X1 X4) X0) rfl (bQ (bQ (bw h0.symm) h1.1) h2.1)
theorem Ht(h0:x0<=(2:Nat))(h1:x1<=(2:Nat))(h2:(x0<=x2/\x2<=(x0+((2:Nat)*x1))))(h3:x3<(2:Nat))(h4:x4=((1:Nat)+x3))(h5:x5<=(2:Nat))(h6:((x2+x4)<=x6/\x6<=((x2+x4)+((2:Nat)*x5))))(h7:x7<=(2:Nat))(h8:(x6<=x8/\x8<=(x6+((2:Nat)*x7)))):x8<=(100:Nat):=ai [x8,x0,x1,x2,x3,x4,x5,x6,x7] X0 (Nm 100) 1 (Pl (Pl (Pl (Pl (Pl (Pl (Pl (Pl X1 (Ml 2 X2)) X3) (Pl X4 (Nm 1))) X5) (Ml 2 X6)) X7) (Ml 2 (.X 8))) X0) (Pl (Pl (Pl (Pl (Pl (Pl (Pl (Pl (Nm 2) (Ml 2 (Nm 2))) (Pl X1 (Ml 2 X2))) (Nm 2)) (Pl (Nm 1) X4)) (Ml 2 (Nm 2))) (Pl (Pl X3 X5) (Ml 2 X6))) (Ml 2 (Nm 2))) (Pl X7 (Ml 2 (.X 8)))) rfl (bQ (bQ (bQ (bQ (bQ (bQ (bQ (bQ h0 (iJ 2 h1)) h2.2) h3) (bw h4)) (iJ 2 h5)) h6.2) (iJ 2 h7)) h8.2)
theorem fE{P:Prop}{R:V->Prop}(q:P):oO .next P R:=q
noncomputable def rm(h:H)(k:Nat):H:=λ x=>if x=k then none else h x
theorem L8:le (rm h k) h:=λ x o e=>by
 unfold rm at e
 split at e
 ·exact dD e
 ·exact e
theorem JZ:rm h k k=none:=if_pos rfl
theorem jq(e:h x=some o)(n:x≠k):rm h k x=some o:=(if_neg n).trans e
theorem d8.rm{hb:H}{k:Nat}{K:List Nat}{ys:List BA}{Bs:List Block}(A:d8 hb ys Bs)(hk:hb k=some (.list (aB K)))(h0:0<K.length)(hp:∀B∈Bs,B.params.length<K.length):d8 (rm hb k) ys Bs:=by
 refine⟨A.1,λ i y B a b=>?_⟩
 have x:=A.2 i y B a b
 refine⟨jq x.b λ e=>?_,jq x.p λ e=>?_,jq x.o λ e=>?_⟩
 ·have:=x.b;simp only[e,hk] at this;cases this
 ·have:=x.p;rw[e,hk] at this
  have h1:=hp B (mB b)
  have h2:=congrArg (λ o:Option O=>match o with|some (.list l)=>l.length|_=>0) this
  have h2:(aB K).length=(aB B.params).length:=h2
  rw[ac,ac] at h2
  exact Nat.not_succ_le_zero 0 (aS [_,_] (Nm 1) (Nm 0) 1 (Pl X0 (Nm 1)) X1 1 X1 X0 rfl h1 (bw h2))
 ·have:=x.o;rw[e,hk] at this
  cases K with
  |nil=>cases h0
  |cons r K=>cases B with|mk p o e=>cases o with|nil=>cases this|cons o os=>cases o<;>cases this
section
variable {hb h : H} {a : LA} {L : List Int} {i cnt : Nat} {en nd : V} {Bl : List BA}
theorem Ej{n k e:Nat}{nd:Int}{Q:V->H->Prop}(X:LU hb a L i (.ref e) (.int nd) cnt ys h)(A:d8 hb ys Bs)(hk:hb k=some (.list (aB K1)))(sk:a.s≠k)(he:hb e=some (.list (aB E)))(h0:E.length<K1.length)(h1:K1.length<=40)(hp:∀B∈Bs,B.params.length<K1.length)(hc:cnt<=80)(hi:i<=150)(hB:ys.length<=5)(hK:∀r∈K1,r<cnt)
  (q:∀y os K' cnt' f l h',hG K1 cnt os K' cnt'->os.length<=2->f∈K'->(∀r∈l,r∈K')->l.length=3->bF h' ⟨a.u,e,a.bs,ys++[y]⟩ ⟨E,nd,cnt',Bs++[⟨[],os,.give f l⟩]⟩->Q (.ref a.u) h'):
  wB (ah prog (n+3)) iB [some (.ref a.dk),some (.ref a.u),some (.ref k),s3,s4,s5,s6,s7,s8,s9,jZ,kS,uE,none,none,none] (q5 Q) h:=by
 have X':=X.drop (L8 (k:=k)) (jq X.s sk)
 have A':=A.rm hk (by exact ai [_,_] (Pl (Nm 0) (Nm 1)) X0 1 (Pl X1 (Nm 1)) X0 rfl h0) hp
 have Td:rm hb k e=some (.list (aB E)):=jq he λ x=>by
  simp only[x,hk] at he
  have h2:=congrArg (λ o:Option O=>match o with|some (.list l)=>l.length|_=>0) he
  have h2:(aB K1).length=(aB E).length:=h2
  rw[ac,ac] at h2
  exact Nat.not_succ_le_zero 0 (aS [_,_] (Nm 1) (Nm 0) 1 (Pl X0 (Nm 1)) X1 1 X1 X0 rfl h0 (bw h2))
 refine Cf (n:=n) (least:=0) X' (X.le _ _ hk) JZ (by exact ai [_,_] (Pl (Nm 0) (Nm 1)) X0 1 (Pl X1 (Nm 1)) X0 rfl h0) (by exact ai [_] X0 (Nm 50) 1 X0 (Nm 40) rfl h1) (by exact ai [_] X0 (Nm 90) 1 X0 (Nm 80) rfl hc) (by exact ai [_] X0 (Nm 160) 1 X0 (Nm 150) rfl hi) (dz _) hB hK λ L9 y os K' Aq oH bB bI Fy DC f o1 ic aO Ar q9 yw FW=>?_
 have fl:=f.len
 refine aG (L7 (K:=K') (by exact C8 h0 fl)) λ r hr er=>?_
 refine cQ q9 er ?_;refine dW (m:=3) aO q9 (by exact C8 h0 fl) (by exact fH [_,_,_] X0 (Nm 100) 1 X1 (Nm 40) 2 X2 (Nm 2) 1 X0 (Pl X1 (Ml 2 X2)) rfl h1 o1 fl.2) (bE _) (by exact aS [_,_] X0 (Nm 190) 1 X1 (Nm 150) 1 X0 (Pl X1 (Nm 9)) rfl hi ic) λ l cN ll lK aM fr=>?_
 refine bT (sm rfl) ?_;refine end_ (.give r l) aM (Ar.fr aO fr) Fy (A'.le bI) λ Cg fv bG cq As u0 u0=>?_
 exact bD (av _) (q y os K' oH r l fv f o1 hr lK ll (bG.isUnit As (cq _ _ (bI _ _ Td))))
theorem BE{n k e sh:Nat}{Q:V->H->Prop}(X:LU hb a L i (.ref e) (.int ((E.length:Int)-1)) cnt [] h)(hk:h k=some (.list (aB E)))(k0:hb k=none)(he:hb e=some (.list (aB E)))(eN:E.Nodup)(e2:E.length<=2)(e0:0<E.length)(hc:cnt<=2)(hi:i<=3)(hE:∀r∈E,r<cnt)
  (q:∀x U o h',bF h' x U->GU U o->Q (.ref x.u) h'):
  wB (ah prog (n+3)) nH [some (.ref a.dk),some (.ref a.u),some (.ref k),some (.int sh),none,none,none,none,none,none,none,none,none,none,none,none] (q5 Q) h:=by
 refine Cf (n:=n) (least:=1) X hk k0 e0 (by exact ai [_] X0 (Nm 50) 1 X0 (Nm 2) rfl e2) (by exact ai [_] X0 (Nm 90) 1 X0 (Nm 2) rfl hc) (by exact ai [_] X0 (Nm 160) 1 X0 (Nm 3) rfl hi) (bE _) (dz _) hE λ L9 y0 Fb K0 Aq oH bB bI Fy DC f0 o0 ic aO Ar q9 yw FW=>?_
 have Np:d8 L9 [] []:=⟨rfl,λ i y B e=>nomatch e⟩
 have n0:=f0.len
 have m0:=f0.le
 have FY:=bI _ _ he
 refine oX (λ u0=>?_) (λ u0=>?_)
 ·refine aG (L6 (K:=K0) (by exact gW e0 n0)) λ r hr er=>?_
  refine cQ q9 er ?_;refine dW (m:=2) aO q9 (by exact gW e0 n0) (by exact fH [_,_,_] X0 (Nm 100) 1 X1 (Nm 2) 2 X2 (Nm 2) 1 X0 (Pl X1 (Ml 2 X2)) rfl e2 o0 n0.2) (by decide) (by exact aS [_,_] X0 (Nm 190) 1 X1 (Nm 3) 1 X0 (Pl X1 (Nm 9)) rfl hi ic) λ l cN ll lK aM fr=>?_
  refine bT (sm rfl) ?_;refine end_ (.give r l) aM (Ar.fr aO fr) Fy Np λ Cg fv bG cq As u0 u0=>?_
  refine bD (av _) (q _ _ [0] _ (bG.isUnit As (cq _ _ FY)) ?_)
  exact NS e2 eN f0 (by exact fH [_,_,_] X0 (Nm 900) 1 X1 (Nm 2) 2 X2 (Nm 2) 1 X0 (Pl X1 (Ml 2 X2)) rfl hc o0 m0.2) o0 hr lK (by exact ai [_] X0 (Nm 3) 1 X0 (Nm 2) rfl (bw ll))
 refine bX aO (m:=2) (by decide) (by decide) (by exact aS [_,_] X0 (Nm 200) 1 X1 (Nm 3) 1 X0 (Pl X1 (Nm 9)) rfl hi ic) λ v hv=>?_;refine oE (p:=1) (q:=v) (by exact ai [_] (Pl (Pl (Nm 1) X0) (Nm 1)) (Nm 2000000) 1 (Pl X0 (Nm 1)) (Nm 2) rfl hv) ?_
 have aM:=aO.draw
 have kd:=aO.kd q9
 have lE:=ag (p:=.list [.ref a.s,.int (Aq+1:Nat)]) q9 kd
 have sP:=Ar.fr (h':=aC bB a.dk (.list [.ref a.s,.int (Aq+1:Nat)])) aO λ x ob d e=>ag e d
 clear aO Ar q9
 generalize aC bB a.dk (.list [.ref a.s,.int (Aq+1:Nat)])=cN at*
 refine oX (λ u0=>?_) (λ u0=>?_)
 ·refine yu aM lE (by exact gW e0 n0) (by exact fH [_,_,_] X0 (Nm 1000) 1 X1 (Nm 2) 2 X2 (Nm 2) 1 X0 (Pl X1 (Ml 2 X2)) rfl e2 o0 n0.2) (by exact aS [_,_] (Pl X0 (Nm 1)) (Nm 200) 1 X1 (Nm 3) 1 X0 (Pl X1 (Nm 9)) rfl hi ic) λ r hr=>?_;refine bT (sm rfl) ?_
  refine end_ (.branch r 1 2) aM.draw (sP.fr (h':=aC cN a.dk (.list [.ref a.s,.int (Aq+1+1:Nat)])) aM λ x ob d e=>ag e d) Fy Np λ Cg fv bG cq As Ch nn=>?_
  have lD:=Ch k _ yw (ag lE kd)
  have kN:=nn k yw FW DC
  have bG:=bG.add lD kN kd (bG.ku lD) (bG.kb lD (by exact gW e0 n0))
  have As:=As.le (aA (o:=.list (aB K0)) kN)
  have QT:=ax (p:=.list (aB K0)) (cq _ _ FY) kN
  have MQ:=aa Cg k (.list (aB K0))
  generalize aC Cg k (.list (aB K0))=Wu at*
  refine fT (n:=2) (by decide) ?_;refine wv ?_
  refine PW (n:=n) (m:=1+v) bG MQ As (by exact gW e0 n0) (by exact fH [_,_,_] X0 (Nm 40) 1 X1 (Nm 2) 2 X2 (Nm 2) 1 X0 (Pl X1 (Ml 2 X2)) rfl e2 o0 n0.2) (by exact fH [_,_,_] X0 (Nm 80) 1 X1 (Nm 2) 2 X2 (Nm 2) 1 X0 (Pl X1 (Ml 2 X2)) rfl hc o0 m0.2) (by exact aS [_,_] (Pl (Pl X0 (Nm 1)) (Nm 1)) (Nm 150) 1 X1 (Nm 3) 1 X0 (Pl X1 (Nm 9)) rfl hi ic) (eP rfl) f0.lt (by exact ai [_] (Pl (Nm 1) X0) (Nm 2) 1 (Pl X0 (Nm 1)) (Nm 2) rfl hv) λ QU y1 IX l1 K1 YF YG k8 s7 s8 qj Fx f1 o1 g1 Xb i4 fI=>?_
  have m1:=f1.le
  refine wv ?_
  refine PW (n:=n) (m:=1+v) fI (qj _ _ MQ) Fx (by exact gW e0 n0) (by exact fH [_,_,_] X0 (Nm 40) 1 X1 (Nm 2) 2 X2 (Nm 2) 1 X0 (Pl X1 (Ml 2 X2)) rfl e2 o0 n0.2) (by exact JT hc o0 m0 o1 m1) (by exact fH [_,_,_] X0 (Nm 150) 1 X1 (Nm 3) 1 X2 (Pl X1 (Nm 9)) 1 X0 (Pl (Pl (Pl X2 (Nm 1)) (Nm 1)) (Nm 11)) rfl hi ic i4) (eP rfl) (λ r m=>kI (f0.lt r m) m1.1) (by exact ai [_] (Pl (Nm 1) X0) (Nm 2) 1 (Pl X0 (Nm 1)) (Nm 2) rfl hv) λ QV y2 IY l2 K2 PX Au fV YS YT rG UQ f2 o2 g2 O1 i5 d9=>?_
  have m2:=f2.le
  have MQ:=rG _ _ (qj _ _ MQ)
  have QW:=rG _ _ (qj _ _ QT)
  have ks:(aB K0).length<aZ:=by rw[ac];exact cO (show K0.length<=100 by exact fH [_,_,_] X0 (Nm 100) 1 X1 (Nm 2) 2 X2 (Nm 2) 1 X0 (Pl X1 (Ml 2 X2)) rfl e2 o0 n0.2) (by decide)
  refine Oz ?_;refine sR (d9.le _ _ MQ) ks λ k1 OD=>?_
  have mG:=d9.grow (aA (o:=.list (aB K0)) OD)
  have oT:=aa fV k1 (.list (aB K0))
  have Xc:=bn d9.le OD
  clear d9 OD
  generalize aC fV k1 (.list (aB K0))=PY at*
  refine fT (n:=1+v) (cO (show 1+v<=2 by exact ai [_] (Pl (Nm 1) X0) (Nm 2) 1 (Pl X0 (Nm 1)) (Nm 2) rfl hv) (by decide)) ?_
  refine on (n:=n+2) (λ u0=>rfl) (1+v) 0 [] Au PY mG (by exact JU hc o0 m0 hv o1 m1 o2 m2) λ Nq Fz FZ=>?_
  have kT:(List.range' Au (1+v)).length=1+v:=List.length_range'
  have Te:(List.range' Au (1+v)).Nodup:=List.nodup_range'
  have Tf:∀r∈List.range' Au (1+v),r<Au+(1+v):=λ r m=>(List.mem_range'_1.mp m).2
  have F0:=FZ k1 _ (mG.ku oT) oT
  simp only[List.nil_append]
  generalize List.range' Au (1+v)=ps at*
  refine bf (l:=aB ps) (by rw[ac,kT];exact cO (show 1+v<=2 by exact ai [_] (Pl (Nm 1) X0) (Nm 2) 1 (Pl X0 (Nm 1)) (Nm 2) rfl hv) (by decide)) λ p hp=>?_
  refine No (n:=n) (least:=0) Fz F0 Xc hp (by exact gW e0 n0) (by exact fH [_,_,_] X0 (Nm 50) 1 X1 (Nm 2) 2 X2 (Nm 2) 1 X0 (Pl X1 (Ml 2 X2)) rfl e2 o0 n0.2) (by exact aS [_,_] X0 (Nm 2) 1 (Pl X1 (Nm 1)) (Nm 2) 1 X0 (Pl (Nm 1) X1) rfl hv (bw kT)) (by exact JV hc o0 m0 hv o1 m1 o2 m2) (by exact nw [_,_,_,_] X0 (Nm 160) 1 X1 (Nm 3) 1 X2 (Pl X1 (Nm 9)) 1 X3 (Pl (Pl (Pl X2 (Nm 1)) (Nm 1)) (Nm 11)) 1 X0 (Pl X3 (Nm 11)) rfl hi ic i4 i5) (dz _) (eP rfl) (λ r m=>?_) λ Ma y3 Lx K3 PZ P0 wo DD Jk Wv f3 o3 i8 uF wp yx QX QY=>?_
  ·rcases gP m with m|m
   ·have:=f0.lt r m;exact JW m1 m2 this
   ·exact Tf r m
  have n3:=f3.len
  rw[eQ] at n3
  have m3:=f3.le
  refine aG (L6 (K:=K3) (by exact iS kT n3)) λ f hf ef=>?_
  refine aG (L7 (K:=K3) (by exact iS kT n3)) λ g hg eg=>?_
  refine cQ yx ef ?_;refine cQ yx eg ?_;refine dW (m:=2) uF yx (by exact iS kT n3) (by exact C9 e2 o0 n0 hv kT o3 n3) (by decide) (by exact I5 [_,_,_,_,_] X0 (Nm 190) 1 X1 (Nm 3) 1 X2 (Pl X1 (Nm 9)) 1 X3 (Pl (Pl (Pl X2 (Nm 1)) (Nm 1)) (Nm 11)) 1 X4 (Pl X3 (Nm 11)) 1 X0 (Pl X4 (Nm 9)) rfl hi ic i4 i5 i8) λ l DE ll lK wq F1=>?_
  refine bT (sm rfl) ?_;refine end_ (.call f g l) wq (wp.fr uF F1) Jk (UQ.le DD) λ vx h' X' xV A' u0 u0=>?_
  refine bD (av _) (q _ _ [0,1,3,2] _ (X'.isUnit A' (xV _ _ (DD _ _ QW))) ?_)
  exact JQ e2 eN f0 f1 f2 f3 (by exact JX hc o0 m0 hv o1 m1 o2 m2 o3 m3) ⟨by exact JY m1 m2 m3,by exact Hc m2 m3,by exact Hd m3,by exact aL [_] X0 X0 rfl⟩ o0 o1 o2 o3 Te ⟨by exact aS [_,_] X0 (Nm 2) 1 (Pl X1 (Nm 1)) (Nm 2) 1 X0 (Pl (Nm 1) X1) rfl hv (bw kT),by exact dP (aS [_,_,_] X0 X1 1 (Pl (Nm 1) X2) X1 1 X0 (Pl (Nm 1) X2) rfl (bw g1.symm) (bw kT)) (aS [_,_,_] X0 X1 1 X0 (Pl (Nm 1) X2) 1 (Pl (Nm 1) X2) X1 rfl (bw g1) (bw kT.symm))⟩ ⟨by exact aS [_,_] X0 (Nm 2) 1 (Pl X1 (Nm 1)) (Nm 2) 1 X0 (Pl (Nm 1) X1) rfl hv (bw kT),by exact dP (aS [_,_,_] X0 X1 1 (Pl (Nm 1) X2) X1 1 X0 (Pl (Nm 1) X2) rfl (bw g2.symm) (bw kT)) (aS [_,_,_] X0 X1 1 X0 (Pl (Nm 1) X2) 1 (Pl (Nm 1) X2) X1 rfl (bw g2) (bw kT.symm))⟩ hr Xb O1 hf hg lK (by exact ai [_] X0 (Nm 2) 1 X0 (Nm 2) rfl (bw ll))
 ·refine dW aM lE (by exact gW e0 n0) (by exact fH [_,_,_] X0 (Nm 100) 1 X1 (Nm 2) 2 X2 (Nm 2) 1 X0 (Pl X1 (Ml 2 X2)) rfl e2 o0 n0.2) (by exact ai [_] (Pl (Nm 1) X0) (Nm 3) 1 (Pl X0 (Nm 1)) (Nm 2) rfl hv) (by exact aS [_,_] (Pl X0 (Nm 1)) (Nm 190) 1 X1 (Nm 3) 1 X0 (Pl X1 (Nm 9)) rfl hi ic) λ l0 fv g0 Xd bG Ch=>?_;refine bT (sm rfl) ?_
  refine end_ (.goto 1 l0) bG (sP.fr aM Ch) Fy Np λ QU k8 fI qj Fx QZ nn=>?_
  have oR:=QZ k _ yw (Ch k _ kd lE)
  have kN:=nn k yw FW DC
  have Q3:=qj _ _ FY
  refine fT (n:=1+v) (cO (show 1+v<=2 by exact ai [_] (Pl (Nm 1) X0) (Nm 2) 1 (Pl X0 (Nm 1)) (Nm 2) rfl hv) (by decide)) ?_
  refine on (n:=n+2) (λ u0=>rfl) (1+v) 0 [] oH k8 fI (by exact He hc o0 m0 hv) λ Nq Fz FZ=>?_
  have kT:(List.range' oH (1+v)).length=1+v:=List.length_range'
  have Te:(List.range' oH (1+v)).Nodup:=List.nodup_range'
  have Tf:∀r∈List.range' oH (1+v),r<oH+(1+v):=λ r m=>(List.mem_range'_1.mp m).2
  have F0:=FZ k _ (fI.ku oR) oR
  simp only[List.nil_append]
  generalize List.range' oH (1+v)=ps at*
  have Tg:(aB ps).length<aZ:=by rw[ac,kT];exact cO (show 1+v<=2 by exact ai [_] (Pl (Nm 1) X0) (Nm 2) 1 (Pl X0 (Nm 1)) (Nm 2) rfl hv) (by decide)
  refine bf (l:=aB ps) Tg λ p hp=>?_
  refine No (n:=n) (least:=0) Fz F0 kN hp (by exact gW e0 n0) (by exact fH [_,_,_] X0 (Nm 50) 1 X1 (Nm 2) 2 X2 (Nm 2) 1 X0 (Pl X1 (Ml 2 X2)) rfl e2 o0 n0.2) (by exact aS [_,_] X0 (Nm 2) 1 (Pl X1 (Nm 1)) (Nm 2) 1 X0 (Pl (Nm 1) X1) rfl hv (bw kT)) (by exact Hf hc o0 m0 hv) (by exact fH [_,_,_] (Pl (Pl X0 (Nm 1)) (Pl (Nm 1) X1)) (Nm 160) 1 X2 (Nm 3) 1 X0 (Pl X2 (Nm 9)) 1 (Pl X1 (Nm 1)) (Nm 2) rfl hi ic hv) (dz _) (eP rfl) (λ r m=>?_) λ QV y1 IX K1 PX Au fV rG UR Q4 f1 o1 i5 d9 US jp Mb Q5=>?_
  ·rcases gP m with m|m
   ·have:=f0.lt r m;exact ai [_,_,_] (Pl X0 (Nm 1)) (Pl X1 (Pl (Nm 1) X2)) 1 (Pl X0 (Nm 1)) X1 rfl this
   ·exact Tf r m
  have n1:=f1.len
  rw[eQ] at n1
  have m1:=f1.le
  have Q6:=d9.kd jp
  refine yu d9 jp (by exact iS kT n1) (by exact Hg e2 o0 n0 hv kT o1 n1) (by exact nw [_,_,_,_] X0 (Nm 200) 1 X1 (Nm 3) 1 X2 (Pl X1 (Nm 9)) 1 (Pl X3 (Nm 1)) (Nm 2) 1 X0 (Pl (Pl (Pl X2 (Nm 1)) (Pl (Nm 1) X3)) (Nm 9)) rfl hi ic hv i5) λ r hr=>?_;refine bT (sm rfl) ?_
  refine end_ (.branch r 2 3) d9.draw (US.fr (h':=aC fV a.dk (.list [.ref a.s,.int (PX+1:Nat)])) d9 λ x ob d e=>ag e d) UR (Fx.le rG) λ F2 PY mG Ng P1 Q7 Q8=>?_
  have oT:=Q7 k _ Mb (ag jp Q6)
  have Ci:=Q8 k Mb Q5 Q4
  have Th:=(P1.2 1 y1 _ rfl rfl)
  have ks:(aB K1).length<aZ:=by rw[ac];exact cO (show K1.length<=100 by exact C9 e2 o0 n0 hv kT o1 n1) (by decide)
  refine sR oT ks λ k2 Ti=>?_
  have Xe:=bn mG.le Ti
  have sk:=aj mG.s Ci
  have Q9:=(mG.add oT Ci (mG.kd oT) (mG.ku oT) (mG.kb oT (by exact iS kT n1))).grow (aA (o:=.list (aB K1)) Ti)
  have UT:aC F2 k (.list (aB K1)) k2=none:=(bu (aj oT Ti).symm).trans Xe
  have MQ:=aa F2 k (.list (aB K1))
  have UU:=P1.le (aA (o:=.list (aB K1)) Ci)
  have Ra:=ax (p:=.list (aB K1)) (Ng _ _ (rG _ _ Q3)) Ci
  clear mG d9 fI aM
  generalize aC F2 k (.list (aB K1))=Ww at*
  refine Cf (n:=n) (least:=0) Q9 (aa ..) UT (by exact iS kT n1) (by exact Hh e2 o0 n0 hv kT o1 n1) (by exact Hj hc o0 m0 hv o1 m1) (by exact nw [_,_,_,_] (Pl X0 (Nm 1)) (Nm 160) 1 X1 (Nm 3) 1 X2 (Pl X1 (Nm 9)) 1 (Pl X3 (Nm 1)) (Nm 2) 1 X0 (Pl (Pl (Pl X2 (Nm 1)) (Pl (Nm 1) X3)) (Nm 9)) rfl hi ic hv i5) (dz _) (eP rfl) f1.lt λ Ma y2 IY K2 PZ P0 wo DD Jk YH f2 o2 i8 uF wp yx QX QY=>?_
  have n2:=f2.len
  have m2:=f2.le
  have Nr:=UU.le DD
  have aY:∀{l2 i' vx DE s3 s4 s5 s6 s7 s8 s9 jZ kS uE},Fv ps l2->(∀r∈l2,r∈K2)->i'<=PZ+2->LU vx a L i' (.ref e) (.int ((E.length:Int)-1)) P0 ([]++[y0]++[y1]++[y2]) DE->le Ma vx->d8 vx ([]++[y0]++[y1]++[y2]) ([]++[⟨[],Fb,.goto 1 l0⟩]++[⟨ps,IX,.branch r 2 3⟩]++[⟨[],IY,.goto 1 l2⟩])->
    wB (ah prog (n+3)) iB [some (.ref a.dk),some (.ref a.u),some (.ref k),s3,s4,s5,s6,s7,s8,s9,jZ,kS,uE,none,none,none] (q5 Q) DE:=λ i2 O1 ii wq xV FC=>by
   refine Ej wq FC (xV _ _ (DD _ _ MQ)) sk (xV _ _ (DD _ _ Ra)) (by exact Hk n0 kT n1) (by exact Hl e2 o0 n0 hv kT o1 n1) (λ B m=>?_) (by exact Hm hc o0 m0 hv o1 m1 o2 m2) (by exact Po [_,_,_,_,_,_] X0 (Nm 150) 1 X1 (Nm 3) 1 X2 (Pl X1 (Nm 9)) 1 (Pl X3 (Nm 1)) (Nm 2) 1 X4 (Pl (Pl (Pl X2 (Nm 1)) (Pl (Nm 1) X3)) (Nm 9)) 1 X5 (Pl (Pl X4 (Nm 1)) (Nm 9)) 1 X0 (Pl X5 (Nm 2)) rfl hi ic hv i5 i8 ii) (eP rfl) (λ r m=>kI (f1.lt r m) m2.1) λ y3 Lx K3 c' f l h' f3 o3 hf Xf l3 hu=>?_
   ·rcases ci m with rfl|m
    ·show 0<_;exact iS kT n1
    ·rcases ci m with rfl|m
     ·show ps.length<_;exact Hn e0 n0 n1
     ·cases cP m
      show 0<_;exact iS kT n1
   ·have m3:=f3.le
    exact q _ _ [0,1,2,3] _ hu (JR e2 eN f0 f1 f2 f3 (by exact Ho hc o0 m0 hv o1 m1 o2 m2 o3 m3) ⟨by exact Hp m1 m2 m3,by exact Hq m2 m3,by exact Hr m3,by exact aL [_] X0 X0 rfl⟩ o0 o1 o2 o3 Te ⟨by exact aS [_,_] X0 (Nm 2) 1 (Pl X1 (Nm 1)) (Nm 2) 1 X0 (Pl (Nm 1) X1) rfl hv (bw kT),by exact dP (aS [_,_,_] X0 X1 1 (Pl (Nm 1) X2) X1 1 X0 (Pl (Nm 1) X2) rfl (bw g0.symm) (bw kT)) (aS [_,_,_] X0 X1 1 X0 (Pl (Nm 1) X2) 1 (Pl (Nm 1) X2) X1 rfl (bw g0) (bw kT.symm))⟩ i2 hr Xd O1 hf Xf (by exact ai [_] X0 (Nm 3) 1 X0 (Nm 3) rfl (bw l3)))
  have Th:=Nr.2 1 y1 _ rfl rfl
  refine oX (λ u0=>?_) (λ u0=>?_)
  ·refine ay (uF.le _ _ Th.b) rfl ?_;refine I9 (uF.le _ _ Th.p) Tg λ w hw=>?_
   have rv:(aB ps).reverse=aB ps.reverse:=(List.map_reverse ..).symm
   simp only[rv]
   refine xU (aa ..) (by rw[ac,List.length_reverse,←ac];exact Tg) ?_;refine bT (sm rfl) ?_
   have lw:=aA (o:=.list (aB ps.reverse)) hw
   refine end_ (.goto 1 ps.reverse) (uF.grow lw) ⟨lw _ _ wp.b,lw _ _ wp.o,wp.b0,wp.o0,wp.od,wp.ob⟩ Jk Nr λ vx DE wq xV FC u0 u0=>?_
   refine fE ?_
   exact aY ⟨by exact aS [_,_] X0 (Nm 2) 1 (Pl X1 (Nm 1)) (Nm 2) 1 X0 (Pl (Nm 1) X1) rfl hv (bw kT),by rw[List.length_reverse]⟩ (λ r m=>f2.inc r (f1.inc r (mA _ (List.mem_reverse.mp m)))) (by exact aL [_] X0 (Pl X0 (Nm 2)) rfl) wq xV FC
  ·refine dW uF yx (by exact Hs kT n1 n2) (by exact Ht e2 o0 n0 hv kT o1 n1 o2 n2) (by exact ai [_] (Pl (Nm 1) X0) (Nm 3) 1 (Pl X0 (Nm 1)) (Nm 2) rfl hv) (by exact I5 [_,_,_,_,_] X0 (Nm 190) 1 X1 (Nm 3) 1 X2 (Pl X1 (Nm 9)) 1 (Pl X3 (Nm 1)) (Nm 2) 1 X4 (Pl (Pl (Pl X2 (Nm 1)) (Pl (Nm 1) X3)) (Nm 9)) 1 X0 (Pl (Pl X4 (Nm 1)) (Nm 9)) rfl hi ic hv i5 i8) λ l2 DE g2 O1 wq F1=>?_;refine bT (sm rfl) ?_
   refine end_ (.goto 1 l2) wq (wp.fr uF F1) Jk Nr λ vx DE wq xV FC u0 u0=>?_
   refine fE ?_
   exact aY ⟨by exact aS [_,_] X0 (Nm 2) 1 (Pl X1 (Nm 1)) (Nm 2) 1 X0 (Pl (Nm 1) X1) rfl hv (bw kT),by exact dP (aS [_,_,_] X0 X1 1 X0 (Pl (Nm 1) X2) 1 (Pl (Nm 1) X2) X1 rfl (bw kT) (bw g2.symm)) (aS [_,_,_] X0 X1 1 (Pl (Nm 1) X2) X1 1 X0 (Pl (Nm 1) X2) rfl (bw kT.symm) (bw g2))⟩ O1 (by exact ai [_,_] (Pl X0 (Pl (Nm 1) X1)) (Pl X0 (Nm 2)) 1 (Pl X1 (Nm 1)) (Nm 2) rfl hv) wq xV FC
end
theorem F3{K:Fr->Prop}(e:fD is l fr=some fj)(q:K fj):yp is (.tup l) fr K:=by unfold yp;dsimp only;rw[e];exact q
theorem Rb{P:Prop}(q:P):oL .none P:=q
theorem Ek{Q:V->H->Prop}(X:LU hb a L 0 en nd 0 [] h)(q:∀x U o h',bF h' x U->GU U o->Q (.ref x.u) h'):
  wB (ah prog (n+3)) nJ [some (.ref a.dk),some (.ref a.u),none,none,none,none,none,none,none,none,none,none,none,none,none,none] (q5 Q) h:=by
 refine bX X (m:=2) (by decide) (by decide) (by exact aL [] (Nm 0) (Nm 200) rfl) λ v hv=>?_;refine oE (p:=1) (q:=v) (by exact ai [_] (Pl (Pl (Nm 1) X0) (Nm 1)) (Nm 2000000) 1 (Pl X0 (Nm 1)) (Nm 2) rfl hv) ?_;refine fT (n:=1+v) (cO (show 1+v<=2 by exact ai [_] (Pl (Nm 1) X0) (Nm 2) 1 (Pl X0 (Nm 1)) (Nm 2) rfl hv) (by decide)) ?_
 refine on (n:=n+2) (λ u0=>rfl) (1+v) 0 [] 0 _ X.draw (by exact ai [_] (Pl (Nm 0) (Pl (Nm 1) X0)) (Nm 1000) 1 (Pl X0 (Nm 1)) (Nm 2) rfl hv) λ bB aO u0=>?_
 have El:(List.range' 0 (1+v)).length=1+v:=List.length_range'
 have En:(List.range' 0 (1+v)).Nodup:=List.nodup_range'
 have Eb:∀r∈List.range' 0 (1+v),r<0+(1+v):=λ r m=>(List.mem_range'_1.mp m).2
 simp only[List.nil_append]
 generalize List.range' 0 (1+v)=E at*
 have es:(aB E).length<aZ:=by rw[ac,El];exact cO (show 1+v<=2 by exact ai [_] (Pl (Nm 1) X0) (Nm 2) 1 (Pl X0 (Nm 1)) (Nm 2) rfl hv) (by decide)
 refine bf (l:=aB E) es λ e he=>?_
 have aM:=(aO.grow (aA (o:=.list (aB E)) he)).add (aa ..) (bn aO.le he) (aj aO.dk he).symm (aj aO.u he).symm (aj aO.bs he).symm
 refine cm aM.u rfl (dQ rfl) ?_
 have bG:=aM.Fs (en':=.ref e) (nd':=nd) (cnt':=0+(1+v))
 have Tj:=aa hb e (.list (aB E))
 refine ay bG.u rfl ?_;refine qi (bG.le _ _ Tj) es ?_;refine M9 (by rw[Int.natAbs_natCast,ac];exact aS [_,_] (Pl X0 (Nm 1)) (Nm (2^62)) 1 (Pl X1 (Nm 1)) (Nm 2) 1 X0 (Pl (Nm 1) X1) rfl hv (bw El)) (by decide) ?_
 rw[ac]
 refine cm bG.u rfl (dQ rfl) ?_
 have fI:=bG.Fs (en':=.ref e) (nd':=.int ((E.length:Int)-1)) (cnt':=0+(1+v))
 refine ay fI.u rfl ?_;refine sR (fI.le _ _ Tj) es λ k hk=>?_
 have d9:=fI.grow (aA (o:=.list (aB E)) hk)
 refine bX d9 (m:=4) (by decide) (by decide) (by exact aL [] (Pl (Nm 0) (Nm 1)) (Nm 200) rfl) λ sh YU=>?_;refine bT (sm rfl) ?_;refine F3 rfl ?_;refine fE ?_
 exact BE d9.draw (ag (aa ..) (d9.kd (aa ..))) (bn fI.le hk) Tj En (by exact aS [_,_] X0 (Nm 2) 1 (Pl X1 (Nm 1)) (Nm 2) 1 X0 (Pl (Nm 1) X1) rfl hv (bw El)) (by exact ai [_,_] (Pl (Nm 0) (Nm 1)) X0 1 (Pl (Nm 1) X1) X0 rfl (bw El.symm)) (by exact ai [_] (Pl (Nm 0) (Pl (Nm 1) X0)) (Nm 2) 1 (Pl X0 (Nm 1)) (Nm 2) rfl hv) (by exact aL [] (Pl (Pl (Nm 0) (Nm 1)) (Nm 1)) (Nm 3) rfl) Eb q
theorem vd{L:List Int}{Q:V->H->Prop}(hd:h dk=some (.list [.ref s,.int 0]))(hs:h s=some (.list (L.map V.int)))(hL:L.length<=100)(q:∀x U o h',bF h' x U->GU U o->Q (.ref x.u) h'):ah prog (n+4) .tr [.ref dk] Q h:=by
 refine bJ rfl ?_;refine cR λ u hu=>?_;refine qb λ e bs n1 he n2 n3 hb=>?_;refine Rb ?_;refine fE ?_
 have ds:s≠dk:=λ x=>by rw[x,hd] at hs;cases L<;>cases hs
 have su:=aj hs hu
 have se:=aj hs he
 have sb:=aj hs hb
 have du:=aj hd hu
 have de:=aj hd he
 have db:=aj hd hb
 exact Ek (a:=⟨dk,s,u,bs⟩) (hb:=aC (λ u0=>none) s (.list (L.map V.int))) ⟨jb (ag (ag (ag hs su) se) sb) (λ u0 u0 e=>nomatch e),bu ds.symm,bu su.symm,bu sb.symm,aa ..,ag (ag (ag hd du) de) db,ag (ag (aa ..) n1.symm) n2.symm,aa ..,db,hL⟩ q
noncomputable abbrev gT:=List Ak
noncomputable def pos(k:gT):List gT->Nat
 |[]=>0
 |x::r=>if x=k then 0 else pos k r+1
noncomputable def dv(N:List gT)(k:gT):List gT:=if k∈N then N else N++[k]
noncomputable def CN:Nat->List gT->List (gT×V)
 |_,[]=>[]
 |n,k::r=>(k,.int (n:Int))::CN (n+1) r
noncomputable abbrev CO(N:List gT):List (gT×V):=CN 0 N
theorem pC:∀(n:Nat) (N:List gT),(CN n N).map (·.1)=N
 |_,[]=>rfl
 |n,_::r=>congrArg _ (pC (n+1) r)
theorem tN(n:Nat)(N:List gT):(CN n N).length=N.length:=by rw[←dR (f:=(·.1)),pC]
theorem tO:∀(n:Nat) (N M:List gT),CN n (N++M)=CN n N++CN (n+N.length) M
 |_,[],_=>rfl
 |n,k::r,M=>by
  show _::CN (n+1) (r++M)=_::(CN (n+1) r++CN (n+(r.length+1)) M)
  rw[tO (n+1) r M,show n+1+r.length=n+(r.length+1) by exact dP (aL [_,_] (Pl (Pl X0 (Nm 1)) X1) (Pl X0 (Pl X1 (Nm 1))) rfl) (aL [_,_] (Pl X0 (Pl X1 (Nm 1))) (Pl (Pl X0 (Nm 1)) X1) rfl)]
theorem Eo(N:List gT)(k:gT):(aE (CO N) k).isSome=decide (k∈N):=by rw[Bool.eq_iff_iff,g7,pC,decide_eq_true_iff]
theorem wT(k:gT):∀(N:List gT) (n:Nat),k∈N->aE (CN n N) k=some (.int ((n+pos k N:Nat):Int))
 |x::r,n,h=>by
  dsimp only[aE,CN,pos]
  rw[List.find?_cons]
  by_cases e:x=k
  ·rw[dE e,if_pos e];rfl
  ·rw[eY e,if_neg e]
   have:=wT k r (n+1) ((ci h).resolve_left λ h=>e h.symm)
   simp only[show n+(pos k r+1)=n+1+pos k r by exact dP (aL [_,_] (Pl X0 (Pl X1 (Nm 1))) (Pl (Pl X0 (Nm 1)) X1) rfl) (aL [_,_] (Pl (Pl X0 (Nm 1)) X1) (Pl X0 (Pl X1 (Nm 1))) rfl)]
   exact this
theorem C':∀{N:List gT},k∈N->pos k (N++M)=pos k N
 |x::r,h=>by
  show(if x=k then 0 else pos k (r++M)+1)=if x=k then 0 else pos k r+1
  by_cases e:x=k
  ·rw[if_pos e,if_pos e]
  ·rw[if_neg e,if_neg e,C' ((ci h).resolve_left λ h=>e h.symm)]
theorem wU:∀{N:List gT},k∉N->pos k (N++k::M)=N.length/\pos k N=N.length:=by
 intro xR
 induction xR with
 |nil=>
  intro _
  exact⟨if_pos rfl,rfl⟩
 |cons x r aU=>
  intro h
  have e:x≠k:=λ e=>h (by rw[e];exact .head _)
  have:=aU λ m=>h (.tail _ m)
  exact⟨(if_neg e).trans (congrArg (·+1) this.1),(if_neg e).trans (congrArg (·+1) this.2)⟩
theorem gG(N:List gT)(k:gT):(dv N k).length<=N.length+1:=by
 unfold dv
 split
 ·exact Nat.le_succ _
 ·rw[eQ];exact bE _
theorem J0(h:k∉N):dT (CO N) k (.int (N.length:Nat))=CO (dv N k):=by
 unfold dT dv
 rw[if_neg h,if_neg λ x=>?_]
 ·show _=CN 0 (N++[k])
  rw[tO,Nat.zero_add];rfl
 ·refine aG (List.any_eq_true.mp x) λ p hp e=>?_
  exact h (by rw[←gS e,←pC 0 N];exact List.mem_map_of_mem hp)
theorem ve{k:gT}{Q:V->H->Prop}(e:h a=some (.b9 (CO N)))(f:ib l=some k)(hN:N.length<=1000)(q:Q (.int (pos k N:Nat)) (aC h a (.b9 (CO (dv N k))))):ah prog (n+1) .gB [.ref a,.tup l] Q h:=by
 have hl:(CO N).length<aZ:=by rw[tN];exact cO hN (by decide)
 refine bJ rfl ?_;refine Uu e f ?_
 simp only[Eo]
 refine oX (λ c=>?_) (λ c=>?_)
 ·have m:k∉N:=λ m=>by rw[dE m] at c;exact kK c
  refine Ux e hl ?_;refine Us e f hl ?_
  simp only[tN,J0 m]
  have:=wT k (dv N k) 0 (by rw[dv,if_neg m];exact mA _ (.head _))
  rw[Nat.zero_add] at this
  have p:=wU (M:=[]) m
  rw[show pos k (dv N k)=pos k N by rw[dv,if_neg m,p.1,p.2]] at this
  refine Py (aa ..) f this ?_;exact bD (av _) q
 ·have m:k∈N:=Decidable.byContradiction λ m=>by rw[eY m] at c;exact IJ c
  have:=wT k N 0 m
  rw[Nat.zero_add] at this
  rw[dv,if_pos m,tA e] at q
  refine Py e f this ?_;exact bD (av _) q
mutual
theorem Gw {h h':H} (l:le h h'):∀(d:D) (v:V),E8 h d v->E8 h' d v
 | .none,_,x=>x
 | .bool _,_,x=>x
 | .int _,_,x=>x
 | .str _,_,x=>x
 | .tup ds,v,x=>by refine aG x λ w e y=>?_;exact⟨w,e,iT l ds w y⟩
 | .list ds,v,x=>by refine nQ x λ a w e f y=>?_;exact⟨a,w,e,l _ _ f,iT l ds w y⟩
theorem iT {h h':H} (l:le h h'):∀(ds:List D) (w:List V),ny h ds w->ny h' ds w
 |[],_,x=>x
 |d::ds,w,x=>by refine nQ x λ v r e y z=>?_;exact⟨v,r,e,Gw l d v y,iT l ds r z⟩
end
theorem rQ:∀{A B:List D} {l m:List V},ny h A l->ny h B m->ny h (A++B) (l++m):=by
 intro xR
 induction xR with
 |nil=>
  intro B l m x y
  subst x;exact y
 |cons d A aU=>
  intro B l m x y
  refine nQ x λ v r e p q=>?_;subst e;exact⟨v,r++m,rfl,p,aU q y⟩
theorem iY:∀{A:List D} {l:List V},ny h A l->l.length=A.length:=by
 intro xR
 induction xR with
 |nil=>
  intro _ x
  subst x;rfl
 |cons d A aU=>
  intro l x
  refine nQ x λ v r e p q=>?_;subst e;exact congrArg (·+1) (aU q)
noncomputable def gD(n:Nat):D:=.int n
theorem hV(h:H):∀(L:List Nat),ny h (L.map gD) (aB L):=by
 intro xR
 induction xR with
 |nil=>
  exact rfl
 |cons n L aU=>
  exact⟨.int n,aB L,rfl,rfl,aU⟩
noncomputable abbrev Rg:=Nat->Option Nat
noncomputable def aV(g:Rg)(r p:Nat):Rg:=λ s=>if s=r then some p else g s
noncomputable def gv(g:Rg)(r:Nat):Nat:=(g r).getD 0
theorem Mc(h:∃v,g r=some v):g r=some (gv g r):=by refine aK h λ v e=>?_;unfold gv;rw[e];rfl
set_option tactic.hygienic true in
theorem eT (l : le a b) : le (rm a k) (rm b k) := λ x o e => by
  unfold rm at *
  split at e
  · exact dD e
  · rename_i n; rw [if_neg n]; exact l _ _ e
structure WA where
 nm:Nat
 hd:Nat
 td:Nat
 lf:Nat
structure eR (h₀:H) (A:WA) (N:List gT) (g:Rg) (T:List D) (m:Nat) (h:H):Prop where
 le:le h₀ h
 n0:h₀ A.nm=none
 h0:h₀ A.hd=none
 t0:h₀ A.td=none
 nm:h A.nm=some (.b9 (CO N))
 hd:∃es,h A.hd=some (.ao es)/\jm es g/\es.length<=m
 td:∃vs,h A.td=some (.list vs)/\ny (rm h₀ A.lf) T vs
 nl:N.length<=m
 tl:T.length<=m
 l0:∃o,h₀ A.lf=some o
section
variable {h₀ h : H} {A : WA} {N : List gT} {g : Rg} {T : List D} {m : Nat}
theorem eR.nh(X:eR h₀ A N g T m h):A.nm≠A.hd:=λ e=>by refine aG X.hd λ es a u0=>?_;have:=X.nm;rw[e,a] at this;cases this
theorem eR.nt(X:eR h₀ A N g T m h):A.nm≠A.td:=λ e=>by refine aG X.td λ es a u0=>?_;have:=X.nm;rw[e,a] at this;cases this
theorem eR.ht(X:eR h₀ A N g T m h):A.hd≠A.td:=λ e=>by refine aG X.td λ es a u0=>?_;refine aG X.hd λ tX b u0=>?_;rw[e,a] at b;cases b
theorem eR.tell(X:eR h₀ A N g T m h){k:gT}:eR h₀ A (dv N k) g T (m+1) (aC h A.nm (.b9 (CO (Mine.dv N k)))):=by
 refine ik X.hd λ es a b c=>?_
 refine aG X.td λ vs d e=>?_
 exact⟨aQ X.le X.n0,X.n0,X.h0,X.t0,aa ..,⟨es,ag a X.nh.symm,b,Nat.le_succ_of_le c⟩,⟨vs,ag d X.nt.symm,e⟩,cV (gG ..) (jj X.nl),Nat.le_succ_of_le X.tl,X.l0⟩
theorem zU{k:Int}:(dT es k v).length<=es.length+1:=by
 unfold dT
 split
 ·rw[dR];exact Nat.le_succ _
 ·rw[eQ];exact bE _
theorem eR.put(X:eR h₀ A N g T m h)(a:h A.hd=some (.ao es))(r p:Nat):eR h₀ A N (aV g r p) T (m+1) (aC h A.hd (.ao (dT es (r:Int) (.int (p:Int))))):=by
 refine ik X.hd λ tX a' b c=>?_
 rw[a] at a';cases a'
 refine aG X.td λ vs d e=>?_
 exact⟨aQ X.le X.h0,X.n0,X.h0,X.t0,ag X.nm X.nh,⟨_,aa ..,b.put r p,cV zU (jj c)⟩,⟨vs,ag d X.ht.symm,e⟩,Nat.le_succ_of_le X.nl,Nat.le_succ_of_le X.tl,X.l0⟩
theorem eR.say(X:eR h₀ A N g T m h)(a:h A.td=some (.list vs))(hv:E8 (rm h₀ A.lf) d v):eR h₀ A N g (T++[d]) (m+1) (aC h A.td (.list (vs++[v]))):=by
 refine ik X.hd λ es a' b c=>?_
 refine aG X.td λ YV d' e=>?_
 rw[a] at d';cases d'
 exact⟨aQ X.le X.t0,X.n0,X.h0,X.t0,ag X.nm X.nt,⟨es,ag a' X.ht,b,Nat.le_succ_of_le c⟩,⟨_,aa ..,rQ e ⟨v,[],rfl,hv,rfl⟩⟩,Nat.le_succ_of_le X.nl,by rw[eQ];exact jj X.tl,X.l0⟩
theorem eR.base(X:eR h₀ A N g T m h)(hx:h x=none):eR (aC h₀ x o) A N g T m (aC h x o):=by
 refine ik X.hd λ es a b c=>?_
 refine aG X.td λ vs d e=>?_
 have x0:=bn X.le hx
 exact⟨eS X.le,(bu (aj X.nm hx)).trans X.n0,(bu (aj a hx)).trans X.h0,(bu (aj d hx)).trans X.t0,ax X.nm hx,⟨es,ax a hx,b,c⟩,⟨vs,ax d hx,iT (eT (aA x0)) _ _ e⟩,X.nl,X.tl,by refine aK X.l0 λ o e=>?_;exact⟨o,ax e x0⟩⟩
theorem eR.grow(X:eR h₀ A N g T m h)(l:Mine.le h h'):eR h₀ A N g T m h':=by
 refine ik X.hd λ es a b c=>?_
 refine aG X.td λ vs d e=>?_
 exact⟨aF X.le l,X.n0,X.h0,X.t0,l _ _ X.nm,⟨es,l _ _ a,b,c⟩,⟨vs,l _ _ d,e⟩,X.nl,X.tl,X.l0⟩
theorem eR.mono(X:eR h₀ A N g T m h)(l:m<=m'):eR h₀ A N g T m' h:=by
 refine ik X.hd λ es a b c=>?_
 exact⟨X.le,X.n0,X.h0,X.t0,X.nm,⟨es,a,b,cV c l⟩,X.td,cV X.nl l,cV X.tl l,X.l0⟩
theorem eR.MR(X:eR h₀ A N g T m h)(hx:h x=none):x≠A.lf:=λ e=>by refine aK X.l0 λ o a=>?_;have:=X.le _ _ a;rw[←e,hx] at this;exact dD this
end
structure RS where
 N:List gT
 g:Rg
 T:List D
noncomputable def qf(o:Op)(s:RS):RS:=match o with
 | .const t k=>⟨dv s.N [.s .const,.i k],aV s.g t (pos [.s .const,.i k] s.N),s.T⟩
 | .free t k=>⟨dv s.N [.s .free,.i k],aV s.g t (pos [.s .free,.i k] s.N),s.T⟩
 | .prim t k a b=>⟨dv s.N [.s .prim,.i k,.i (gv s.g a),.i (gv s.g b)],aV s.g t (pos [.s .prim,.i k,.i (gv s.g a),.i (gv s.g b)] s.N),s.T⟩
 | .closure t k a b=>⟨dv s.N [.s .closure,.i k,.i (gv s.g a),.i (gv s.g b)],aV s.g t (pos [.s .closure,.i k,.i (gv s.g a),.i (gv s.g b)] s.N),s.T⟩
 | .define k v=>⟨s.N,s.g,s.T++[.tup [.str .define,gD k,gD (gv s.g v)]]⟩
 | .fix a b u v=>
  let k1:gT:=[.s .made,.i s.T.length,.i 0]
  let k2:gT:=[.s .made,.i s.T.length,.i 1]
  let g:=aV (aV s.g a (pos k1 s.N)) b (pos k2 (dv s.N k1))
  ⟨dv (dv s.N k1) k2,g,s.T++[.tup [.str .fix,.list [.list [gD (gv g b),gD (gv g u)],.list [gD (gv g a),gD (gv g v)]]]]⟩
section
variable {h₀ h : H} {A : WA} {N : List gT} {g : Rg} {T : List D} {m : Nat}
theorem sW{k:gT}{Q:V->H->Prop}(X:eR h₀ A N g T m h)(hm:m<=900)(f:ib l=some k)(q:∀h',eR h₀ A (dv N k) g T (m+1) h'->Q (.int (pos k N:Nat)) h'):ah prog (n+1) .gB [.ref A.nm,.tup l] Q h:=
 ve X.nm f (by have:=X.nl;exact aS [_,_] X0 (Nm 1000) 1 X1 (Nm 900) 1 X0 X1 rfl hm this) (q _ X.tell)
theorem wt{K:H->Prop}(X:eR h₀ A N g T m h)(hm:m<=900)(q:∀h',eR h₀ A N (aV g r p) T (m+1) h'->K h'):nj (.ref A.hd) (.int r) (.int p) K h:=by
 refine ik X.hd λ es a b c=>?_
 exact xT a (cO (cV c hm) (by decide)) (q _ (X.put a r p))
theorem xN{Q:V->H->Prop}(X:eR h₀ A N g T m h)(e:∃v,g r=some v)(q:Q (.int (gv g r)) h):oD (.ref A.hd) (.int r) Q h:=by
 refine ik X.hd λ es a b c=>?_
 exact dj a (b.some (Mc e)) q
theorem mM{P:Prop}{bb:Bi}(X:eR h₀ A N g T m h)(q:P)(n:yk bb (.list [])=true:=by rfl):qn bb (.ref A.td) P h:=by refine aG X.td λ vs a b=>?_;exact bC a q n
theorem wV{P:Prop}{bb:Bi}(X:eR h₀ A N g T m h)(q:P)(n:yk bb (.ao [])=true:=by rfl):qn bb (.ref A.hd) P h:=by refine ik X.hd λ es a b c=>?_;exact bC a q n
theorem F4{Q:V->H->Prop}(X:eR h₀ A N g T m h)(e:∃v,g r=some v)(q:Q (.int (gv g r)) h):Fi (.ref A.hd) (.int r) .none Q h:=by
 refine ik X.hd λ es a b c=>?_
 refine Uz a ?_
 rw[b.some (Mc e)];exact q
theorem DF{Q:V->H->Prop}(X:eR h₀ A N g T m h)(hm:m<=900)(hv:E8 (rm h₀ A.lf) d v)(q:∀h',eR h₀ A N g (T++[d]) (m+1) h'->Q .none h'):oZ (.ref A.td) v Q h:=by
 refine aG X.td λ vs a b=>?_
 exact cb a (by rw[iY b];exact cO (cV X.tl hm) (by decide)) (q _ (X.say a hv))
theorem Md{Q:V->H->Prop}(X:eR h₀ A N g T m h)(hm:m<=900)(q:Q (.int (T.length:Nat)) h):xS (.ref A.td) Q h:=by
 refine aG X.td λ vs a b=>?_
 refine qi a (by rw[iY b];exact cO (cV X.tl hm) (by decide)) ?_
 rw[iY b];exact q
theorem qr(h:∃v,g s=some v):∃v,aV g r p s=some v:=by
 unfold aV
 split
 ·exact⟨p,rfl⟩
 ·exact h
theorem iU:∃v,aV g r p r=some v:=⟨p,if_pos rfl⟩
theorem rR{o:Op}{Q:V->H->Prop}(X:eR h₀ A N g T m h)(hm:m<=800)(gZ:h₀ of=some (.ao es))(hi:∀r∈o.e9,aE es (r:Int)=some (.int (r:Int)))(hr:∀r∈o.reads,∃v,g r=some v)
  (q:∀re h',le h₀ re->eR re A (qf o ⟨N,g,T⟩).N (qf o ⟨N,g,T⟩).g (qf o ⟨N,g,T⟩).T (m+5) h'->Q .none h'):ah prog (n+2) .wA [.ref A.nm,.ref A.hd,.ref of,o.v,.ref A.td] Q h:=by
 have lr:=av h₀
 cases o with
 |const t k=>
  refine bJ rfl ?_;refine az rfl ?_;refine az rfl ?_;refine az rfl ?_;refine az rfl ?_;refine bT (sm rfl) ?_;refine sW X (by exact ai [_] X0 (Nm 900) 1 X0 (Nm 800) rfl hm) rfl λ bB aO=>?_;refine az rfl ?_;refine dj (aO.le _ _ gZ) (hi t (.head _)) ?_;refine wt aO (by exact ai [_] (Pl X0 (Nm 1)) (Nm 900) 1 X0 (Nm 800) rfl hm) λ cN aM=>?_
  exact dL (av _) (q h₀ cN lr (aM.mono (by exact aL [_] (Pl (Pl X0 (Nm 1)) (Nm 1)) (Pl X0 (Nm 5)) rfl)))
 |free t k=>
  refine bJ rfl ?_;refine az rfl ?_;refine az rfl ?_;refine az rfl ?_;refine az rfl ?_;refine az rfl ?_;refine bT (sm rfl) ?_;refine sW X (by exact ai [_] X0 (Nm 900) 1 X0 (Nm 800) rfl hm) rfl λ bB aO=>?_;refine az rfl ?_;refine dj (aO.le _ _ gZ) (hi t (.head _)) ?_;refine wt aO (by exact ai [_] (Pl X0 (Nm 1)) (Nm 900) 1 X0 (Nm 800) rfl hm) λ cN aM=>?_
  exact dL (av _) (q h₀ cN lr (aM.mono (by exact aL [_] (Pl (Pl X0 (Nm 1)) (Nm 1)) (Pl X0 (Nm 5)) rfl)))
 |define k v=>
  refine bJ rfl ?_;refine az rfl ?_;refine mM X ?_;refine az rfl ?_;refine az rfl ?_;refine dj (X.le _ _ gZ) (hi v (.head _)) ?_;refine xN X (hr v (.head _)) ?_;refine bT (sm rfl) ?_;refine DF (d:=.tup [.str .define,gD k,gD (gv g v)]) X (by exact ai [_] X0 (Nm 900) 1 X0 (Nm 800) rfl hm) ⟨_,rfl,_,_,rfl,rfl,_,_,rfl,rfl,_,_,rfl,rfl,rfl⟩ λ bB aO=>?_
  exact dL (av _) (q h₀ bB lr (aO.mono (by exact aL [_] (Pl X0 (Nm 1)) (Pl X0 (Nm 5)) rfl)))
 |fix a b u v=>
  have ha:=hi a (.tail _ (.tail _ (.head _)))
  have hb:=hi b (.tail _ (.tail _ (.tail _ (.head _))))
  have hu:=hi u (.head _)
  have hv:=hi v (.tail _ (.head _))
  refine bJ rfl ?_;refine az rfl ?_;refine az rfl ?_;refine az rfl ?_;refine az rfl ?_;refine az rfl ?_;refine fP (sm rfl) ?_
  refine wv ?_;refine Md X (by exact ai [_] X0 (Nm 900) 1 X0 (Nm 800) rfl hm) ?_;refine az rfl ?_;refine bT (sm rfl) ?_;refine sW (k:=[.s .made,.i T.length,.i 0]) X (by exact ai [_] X0 (Nm 900) 1 X0 (Nm 800) rfl hm) rfl λ bB aO=>?_;refine az rfl ?_;refine dj (aO.le _ _ gZ) ha ?_;refine wt aO (by exact ai [_] (Pl X0 (Nm 1)) (Nm 900) 1 X0 (Nm 800) rfl hm) λ cN aM=>?_
  refine wv ?_;refine Md aM (by exact ai [_] (Pl (Pl X0 (Nm 1)) (Nm 1)) (Nm 900) 1 X0 (Nm 800) rfl hm) ?_;refine az rfl ?_;refine bT (sm rfl) ?_;refine sW (k:=[.s .made,.i T.length,.i 1]) aM (by exact ai [_] (Pl (Pl X0 (Nm 1)) (Nm 1)) (Nm 900) 1 X0 (Nm 800) rfl hm) rfl λ fv bG=>?_;refine az rfl ?_;refine dj (bG.le _ _ gZ) hb ?_;refine wt bG (by exact ai [_] (Pl (Pl (Pl X0 (Nm 1)) (Nm 1)) (Nm 1)) (Nm 900) 1 X0 (Nm 800) rfl hm) λ k8 fI=>?_;refine Oz ?_
  unfold qf at q
  dsimp only at q
  have ga:∃v,aV (aV g a (pos [.s .made,.i T.length,.i 0] N)) b (pos [.s .made,.i T.length,.i 1] (dv N [.s .made,.i T.length,.i 0])) a=some v:=qr iU
  have gb:∃v,aV (aV g a (pos [.s .made,.i T.length,.i 0] N)) b (pos [.s .made,.i T.length,.i 1] (dv N [.s .made,.i T.length,.i 0])) b=some v:=iU
  have gu:∃v,aV (aV g a (pos [.s .made,.i T.length,.i 0] N)) b (pos [.s .made,.i T.length,.i 1] (dv N [.s .made,.i T.length,.i 0])) u=some v:=qr (qr (hr u (.head _)))
  have gw:∃w,aV (aV g a (pos [.s .made,.i T.length,.i 0] N)) b (pos [.s .made,.i T.length,.i 1] (dv N [.s .made,.i T.length,.i 0])) v=some w:=qr (qr (hr v (.tail _ (.head _))))
  clear aO aM bG hr
  generalize aV (aV g a (pos [.s .made,.i T.length,.i 0] N)) b (pos [.s .made,.i T.length,.i 1] (dv N [.s .made,.i T.length,.i 0]))=G at*
  generalize dv (dv N [.s .made,.i T.length,.i 0]) [.s .made,.i T.length,.i 1]=M at*
  refine mM fI ?_;refine az rfl ?_;refine fP (sm rfl) ?_;refine qe ?_;refine az rfl ?_;refine fP (sm rfl) ?_;refine qe ?_;refine dj (fI.le _ _ gZ) hb ?_;refine xN fI gb ?_;refine qe ?_;refine dj (fI.le _ _ gZ) hu ?_;refine xN fI gu ?_;refine xZ ?_;refine bf (l:=[.int (gv G b),.int (gv G u)]) (sm rfl) λ x hx=>?_
  have lx:=aA (o:=.list [.int (gv G b),.int (gv G u)]) (bn fI.le hx)
  have d9:=fI.base (o:=.list [.int (gv G b),.int (gv G u)]) hx
  have ex:=jq (aa h₀ x (.list [.int (gv G b),.int (gv G u)])) (fI.MR hx)
  have jQ:=lx _ _ gZ
  generalize aC h₀ x (.list [.int (gv G b),.int (gv G u)])=DC at*
  refine qe ?_;refine az rfl ?_;refine fP (sm rfl) ?_;refine qe ?_;refine dj (d9.le _ _ jQ) ha ?_;refine xN d9 ga ?_;refine qe ?_;refine dj (d9.le _ _ jQ) hv ?_;refine xN d9 gw ?_;refine xZ ?_;refine bf (l:=[.int (gv G a),.int (gv G v)]) (sm rfl) λ y hy=>?_
  have ly:=aA (o:=.list [.int (gv G a),.int (gv G v)]) (bn d9.le hy)
  have mG:=d9.base (o:=.list [.int (gv G a),.int (gv G v)]) hy
  have ey:=jq (aa DC y (.list [.int (gv G a),.int (gv G v)])) (d9.MR hy)
  have ex:=eT ly _ _ ex
  generalize aC DC y (.list [.int (gv G a),.int (gv G v)])=UV at*
  refine xZ ?_;refine bf (l:=[.ref x,.ref y]) (sm rfl) λ z hz=>?_
  have lz:=aA (o:=.list [.ref x,.ref y]) (bn mG.le hz)
  have Fz:=mG.base (o:=.list [.ref x,.ref y]) hz
  have ez:=jq (aa UV z (.list [.ref x,.ref y])) (mG.MR hz)
  have VX:=eT (k:=A.lf) lz
  refine bT (sm rfl) ?_
  refine DF (d:=.tup [.str .fix,.list [.list [gD (gv G b),gD (gv G u)],.list [gD (gv G a),gD (gv G v)]]]) Fz (by exact ai [_] (Pl (Pl (Pl (Pl X0 (Nm 1)) (Nm 1)) (Nm 1)) (Nm 1)) (Nm 900) 1 X0 (Nm 800) rfl hm) ⟨_,rfl,_,_,rfl,rfl,_,_,rfl,⟨z,_,rfl,ez,_,_,rfl,⟨x,_,rfl,VX _ _ ex,hV _ [gv G b,gv G u]⟩,_,_,rfl,⟨y,_,rfl,VX _ _ ey,hV _ [gv G a,gv G v]⟩,rfl⟩,rfl⟩ λ wo uF=>?_
  exact dL (av _) (q _ wo (aF lx (aF ly lz)) (uF.mono (by exact aL [_] (Pl (Pl (Pl (Pl (Pl X0 (Nm 1)) (Nm 1)) (Nm 1)) (Nm 1)) (Nm 1)) (Pl X0 (Nm 5)) rfl)))
 |prim t k a b|closure t k a b=>
  refine bJ rfl ?_;refine az rfl ?_;refine az rfl ?_;refine az rfl ?_;refine az rfl ?_;refine az rfl ?_;refine az rfl ?_;refine bT (sm rfl) ?_;refine az rfl ?_;refine fP (sm rfl) ?_
  refine qe ?_;refine dj (X.le _ _ gZ) (hi a (.head _)) ?_;refine xN X (hr a (.head _)) ?_;refine qe ?_;refine dj (X.le _ _ gZ) (hi b (.tail _ (.head _))) ?_;refine xN X (hr b (.tail _ (.head _))) ?_;refine xZ ?_;refine bf (l:=[.int (gv g a),.int (gv g b)]) (sm rfl) λ x hx=>?_
  have bI:=aA (o:=.list [.int (gv g a),.int (gv g b)]) (bn X.le hx)
  have X:=X.base (o:=.list [.int (gv g a),.int (gv g b)]) hx
  refine xU (aa ..) (sm rfl) ?_;refine Nb (sm rfl) ?_;refine sW X (by exact ai [_] X0 (Nm 900) 1 X0 (Nm 800) rfl hm) rfl λ bB aO=>?_;refine az rfl ?_;refine dj (aO.le _ _ (bI _ _ gZ)) (hi t (.tail _ (.tail _ (.head _)))) ?_;refine wt aO (by exact ai [_] (Pl X0 (Nm 1)) (Nm 900) 1 X0 (Nm 800) rfl hm) λ cN aM=>?_
  exact dL (av _) (q _ cN bI (aM.mono (by exact aL [_] (Pl (Pl X0 (Nm 1)) (Nm 1)) (Pl X0 (Nm 5)) rfl)))
end
noncomputable def bR:List Op->RS->RS
 |[],s=>s
 |o::os,s=>bR os (qf o s)
noncomputable def nr:Rg->List Nat->List Nat->Rg
 |g,r::ps,v::vs=>nr (aV g r v) ps vs
 |g,_,_=>g
noncomputable def RS.say(s:RS)(d:D):RS:=⟨s.N,s.g,s.T++[d]⟩
noncomputable def rh(v:Nat):D:=.tup [.str .test,gD v]
noncomputable def yy(f k:Nat)(l:List Nat):D:=.tup [.str .call,gD f,gD k,.list (l.map gD)]
noncomputable def yz(f:Nat)(l:List Nat):D:=.tup [.str .give,gD f,.list (l.map gD)]
noncomputable def Df(e:Nat)(g:Rg):Prop:=∀r,e.testBit r=true->∃v,g r=some v
theorem bq(h:s≠r):aV g r p s=g s:=if_neg h
theorem NT(h:r∈o.writes):∃v,(qf o s).g r=some v:=by
 cases o with
 |const t k=>cases cP h;exact iU
 |free t k=>cases cP h;exact iU
 |prim t k a b=>cases cP h;exact iU
 |closure t k a b=>cases cP h;exact iU
 |define k v=>cases h
 |fix a b u v=>
  rcases ci h with rfl|h
  ·exact qr iU
  ·cases cP h;exact iU
theorem NU(h:r∉o.writes):(qf o s).g r=s.g r:=by
 cases o with
 |const t k=>exact bq λ e=>h (by simp only[e];exact .head _)
 |free t k=>exact bq λ e=>h (by simp only[e];exact .head _)
 |prim t k a b=>exact bq λ e=>h (by simp only[e];exact .head _)
 |closure t k a b=>exact bq λ e=>h (by simp only[e];exact .head _)
 |define k v=>rfl
 |fix a b u v=>exact(bq λ e=>h (by rw[e];exact .tail _ (.head _))).trans (bq λ e=>h (by rw[e];exact .head _))
theorem bU:(bP o a).testBit r=true↔(a.testBit r=true/\r∉o.writes)\/r∈o.reads:=by
 unfold bP
 simp only[bh,ft,aJ,aJ]
 simp
theorem Df.op(h:Df (cK (o::os) e) s.g):(∀r∈o.reads,∃v,s.g r=some v)/\Df (cK os e) (qf o s).g:=by
 have h:Df (bP o (cK os e)) s.g:=h
 refine⟨λ r m=>h r (bU.mpr (.inr m)),λ r hr=>?_⟩
 by_cases m:r∈o.writes
 ·exact NT m
 ·rw[NU m];exact h r (bU.mpr (.inl ⟨hr,m⟩))
theorem lT:∀{ps vs:List Nat} {g:Rg},r∉ps->nr g ps vs r=g r
 |[],_,_,_=>rfl
 |_::_,[],_,_=>rfl
 |p::ps,v::vs,g,h=>(lT (ps:=ps) (vs:=vs) (g:=aV g p v) λ m=>h (.tail _ m)).trans (bq λ e=>h (by rw[e];exact .head _))
theorem yP:∀{ps vs:List Nat} {g:Rg},ps.length=vs.length->r∈ps->∃v,nr g ps vs r=some v
 |p::ps,v::vs,g,e,h=>by
  by_cases m:r∈ps
  ·exact yP (ps:=ps) (vs:=vs) (g:=aV g p v) (Nat.succ.inj e) m
  ·have:=(ci h).resolve_right m
   exact⟨v,(lT (ps:=ps) (vs:=vs) (g:=aV g p v) m).trans (if_pos this)⟩
inductive Walk (U:Un):Nat->Nat->List Int->RS->List gT->List D->Prop where
 |goto {n i j:Nat} {left:List Int} {s:RS} {b:Block} {l:List Nat} {N:List gT} {T:List D} (e:U.blocks[i]?=some b) (he:b.end_=.goto j l)
   (w:Walk U n j left ⟨(bR b.ops s).N,nr (bR b.ops s).g (U.par j) (l.map (gv (bR b.ops s).g)),(bR b.ops s).T⟩ N T):Walk U (n+1) i left s N T
 |stop {n i c t f:Nat} {s:RS} {b:Block} (e:U.blocks[i]?=some b) (he:b.end_=.branch c t f):Walk U (n+1) i [] s (bR b.ops s).N ((bR b.ops s).T++[rh (gv (bR b.ops s).g c)])
 |br {n i c t f:Nat} {x:Int} {left:List Int} {s:RS} {b:Block} {N:List gT} {T:List D} (e:U.blocks[i]?=some b) (he:b.end_=.branch c t f)
   (w:Walk U n (if 0<x then t else f) left ((bR b.ops s).say (rh (gv (bR b.ops s).g c))) N T):Walk U (n+1) i (x::left) s N T
 |call {n i f k:Nat} {left:List Int} {l:List Nat} {s:RS} {b:Block} (e:U.blocks[i]?=some b) (he:b.end_=.call f k l):Walk U (n+1) i left s (bR b.ops s).N ((bR b.ops s).T++[yy (gv (bR b.ops s).g f) (gv (bR b.ops s).g k) (l.map (gv (bR b.ops s).g))])
 |give {n i f:Nat} {left:List Int} {l:List Nat} {s:RS} {b:Block} (e:U.blocks[i]?=some b) (he:b.end_=.give f l):Walk U (n+1) i left s (bR b.ops s).N ((bR b.ops s).T++[yz (gv (bR b.ops s).g f) (l.map (gv (bR b.ops s).g))])
structure WK (U:Un) (B:List Nat):Prop where
 jK:Sane U
 B:∀(i:Nat) (b:Block),U.blocks[i]?=some b->(B[i]?).getD 0=cK b.ops (b7 U B b.end_)
 go:∀(i:Nat) (b:Block),U.blocks[i]?=some b->∀j l,b.end_=.goto j l->l.length<=2/\(U.par j).length=l.length
 br:∀(i:Nat) (b:Block),U.blocks[i]?=some b->∀c t e,b.end_=.branch c t e->U.par t=[]/\U.par e=[]
 ol:∀(i:Nat) (b:Block),U.blocks[i]?=some b->b.ops.length<=2
theorem Df.ops:∀{os:List Op} {s:RS},Df (cK os e) s.g->Df e (bR os s).g:=by
 intro xR
 induction xR with
 |nil=>
  intro _ h
  exact h
 |cons _ os aU=>
  intro _ h
  exact aU h.op.2
theorem Df.goto(h:Df (b7 U B (.goto j l)) g)(hl:(U.par j).length=l.length):(∀r∈l,∃v,g r=some v)/\Df ((B[j]?).getD 0) (nr g (U.par j) (l.map (gv g))):=by
 refine⟨λ r m=>h r (aI.mpr (.inl m)),λ r hr=>?_⟩
 by_cases m:r∈U.par j
 ·exact yP (by rw[dR];exact hl) m
 ·rw[lT m];exact h r (aI.mpr (.inr ⟨j,.head _,hr,m⟩))
theorem Df.br(h:Df (b7 U B (.branch c t f)) g)(hp:U.par t=[]/\U.par f=[]):(∃v,g c=some v)/\Df ((B[t]?).getD 0) g/\Df ((B[f]?).getD 0) g:=
 ⟨h c (aI.mpr (.inl (.head _))),λ r hr=>h r (aI.mpr (.inr ⟨t,.head _,hr,by rw[hp.1];exact nofun⟩)),λ r hr=>h r (aI.mpr (.inr ⟨f,.tail _ (.head _),hr,by rw[hp.2];exact nofun⟩))⟩
section
variable {h₀ h : H} {A : WA} {N : List gT} {g : Rg} {T : List D} {m : Nat}
theorem Ep{K:Out->Fr->H->Prop}(gZ:hb of=some (.ao es))(ho:hb yo=some (.list lo))(hi:∀r:Nat,r<c->aE es (r:Int)=some (.int (r:Int))):
  ∀(os:List Op) (s:RS) (m:Nat) (z:Option V) (h₀ h:H),le hb h₀->eR h₀ A s.N s.g s.T m h->m+5*os.length<=800->(∀o∈os,∀r∈o.e9,r<c)->Df (cK os e) s.g->
  (∀z re h',le h₀ re->eR re A (bR os s).N (bR os s).g (bR os s).T (m+5*os.length) h'->K .next [some (.ref A.nm),some (.ref u),some (.ref of),s3,some (.ref A.hd),some (.ref A.td),s6,s7,s8,s9,jZ,z,uE,wx,xO,CP,O2,O3,O4] h')->
  cw [11] (wB (ah prog (n+2)) nL) (λ h'=>h' yo=some (.list lo)) (os.map Op.v) [some (.ref A.nm),some (.ref u),some (.ref of),s3,some (.ref A.hd),some (.ref A.td),s6,s7,s8,s9,jZ,z,uE,wx,xO,CP,O2,O3,O4] K h:=by
 intro xR
 induction xR with
 |nil=>
  intro s m z h₀ h lb X _ _ _ q
  exact kR (X.le _ _ (lb _ _ ho)) (q z h₀ h (av _) X)
 |cons o os aU=>
  intro s m z h₀ h lb X hm hr d q
  have kL:m+5*(os.length+1)<=800:=hm
  have d':=d.op
  refine f9 (X.le _ _ (lb _ _ ho)) ?_;refine rR (o:=o) X (by exact ai [_,_] X0 (Nm 800) 1 (Pl X0 (Ml 5 (Pl X1 (Nm 1)))) (Nm 800) rfl kL) (lb _ _ gZ) (λ r mr=>hi r (hr o (.head _) r mr)) d'.1 λ bB h' bI aO=>?_
  exact aU (qf o s) (m+5) (some o.v) bB h' (aF lb bI) aO (by exact ai [_,_] (Pl (Pl X0 (Nm 5)) (Ml 5 X1)) (Nm 800) 1 (Pl X0 (Ml 5 (Pl X1 (Nm 1)))) (Nm 800) rfl kL) (λ o mo=>hr o (.tail _ mo)) d'.2 λ z cN h' cq aM=>q z cN h' (aF bI cq) (aM.mono (by simp only[List.length_cons];exact aL [_,_] (Pl (Pl X0 (Nm 5)) (Ml 5 X1)) (Pl X0 (Ml 5 (Pl X1 (Nm 1)))) rfl))
theorem qE{K:List V->H->Prop}(X:eR h₀ A N g T m h)(gZ:h₀ of=some (.ao es))(hi:∀r:Nat,r<c->aE es (r:Int)=some (.int (r:Int)))
  (f4:∀v,(fr.set sl (some v))[4]?=some (some (.ref A.hd)))(f2:∀v,(fr.set sl (some v))[2]?=some (some (.ref of)))(fs:∀v,(fr.set sl (some v))[sl]?=some (some v)):∀(l acc:List Nat),(∀r∈l,r<c)->(∀r∈l,∃v,g r=some v)->K (aB (acc++l.map (gv g))) h->
  dY sl (kJ C lq) (wE C (.sub (.var 4) (.sub (.var 2) (.var sl)))) (λ u0=>True) fr (aB l) (aB acc) K h:=by
 intro xR
 induction xR with
 |nil=>
  intro acc _ _ q
  exact xZ (by rw[List.map_nil,eE] at q;exact q)
 |cons r l aU=>
  intro acc hc d q
  have ih:=aU (acc++[gv g r]) (λ r mr=>hc r (.tail _ mr)) (λ r mr=>d r (.tail _ mr)) (by rw[d6];exact q)
  rw[bg] at ih
  refine qe ?_;refine wn (f4 _) ?_;refine wn (f2 _) ?_;refine wn (fs _) ?_;refine dj (X.le _ _ gZ) (hi r (hc r (.head _))) ?_;refine xN X (d r (.head _)) ?_;exact ih
theorem vH{dG:H->Prop}{K:Out->Fr->H->Prop}(gZ:h₀ of=some (.ao es))(hi:∀r:Nat,r<c->aE es (r:Int)=some (.int (r:Int)))(hc:∀h,le h₀ h->dG h):
  ∀(ps vs:List Nat) (g:Rg) (m:Nat) (z z':Option V) (h:H),eR h₀ A N g T m h->m+ps.length<=900->(∀r∈ps,r<c)->
  (∀z z' h',eR h₀ A N (nr g ps vs) T (m+ps.length) h'->K .next [some (.ref A.nm),some (.ref u),some (.ref of),s3,some (.ref A.hd),s5,s6,s7,s8,s9,jZ,kS,uE,wx,z,z',O2,O3,O4] h')->
  cw [14,15] (wB C nM) dG (iQ (aB ps) (aB vs)) [some (.ref A.nm),some (.ref u),some (.ref of),s3,some (.ref A.hd),s5,s6,s7,s8,s9,jZ,kS,uE,wx,z,z',O2,O3,O4] K h
 |[],vs,g,m,z,z',h,X,_,_,q=>DM (hc h X.le) (q z z' h (by dsimp only[nr];exact X))
 |p::ps,[],g,m,z,z',h,X,_,_,q=>DM (hc h X.le) (q z z' h (by dsimp only[nr];exact X.mono (Nat.le_add_right ..)))
 |p::ps,v::vs,g,m,z,z',h,X,hm,hr,q=>by
  have kL:m+(ps.length+1)<=900:=hm
  refine IU (hc h X.le) ?_;refine dj (X.le _ _ gZ) (hi p (hr p (.head _))) ?_;refine wt X (by exact ai [_,_] X0 (Nm 900) 1 (Pl X0 (Pl X1 (Nm 1))) (Nm 900) rfl kL) λ h' X'=>?_
  exact vH gZ hi hc ps vs (aV g p v) (m+1) _ _ h' X' (by exact ai [_,_] (Pl (Pl X0 (Nm 1)) X1) (Nm 900) 1 (Pl X0 (Pl X1 (Nm 1))) (Nm 900) rfl kL) (λ r mr=>hr r (.tail _ mr)) λ z z' h' X'=>q z z' h' (X'.mono (by simp only[List.length_cons];exact aL [_,_] (Pl (Pl X0 (Nm 1)) X1) (Pl X0 (Pl X1 (Nm 1))) rfl))
theorem wD:rm (aC a k o) k=rm a k:=by
 funext x;dsimp only[rm,aC];split<;>rfl
theorem eR.pop(X:eR h₀ A N g T m h):eR (aC h₀ A.lf o) A N g T m (aC h A.lf o):=by
 refine aK X.l0 λ ob e=>?_
 refine ik X.hd λ es a b c=>?_
 refine aG X.td λ vs d f=>?_
 have n:=iX e X.n0
 have hh:=iX e X.h0
 have t:=iX e X.t0
 exact⟨eS X.le,(bu n).trans X.n0,(bu hh).trans X.h0,(bu t).trans X.t0,ag X.nm n,⟨es,ag a hh,b,c⟩,⟨vs,ag d t,by rw[wD];exact f⟩,X.nl,X.tl,⟨o,aa ..⟩⟩
end
noncomputable def Told(h₀:H)(A:WA)(N:List gT)(T:List D)(Q:V->H->Prop):Prop:=∀c hb ws h',le (rm h₀ A.lf) hb->hb A.nm=none->le hb h'->hb c=some (.list ws)->ny hb T ws->h' A.nm=some (.b9 (CO N))->Q (.ref c) h'
theorem Told.le{Q:V->H->Prop}(q:Told h₀ A N T Q)(l:Mine.le (rm h₀ A.lf) (rm bB A.lf)):Told bB A N T Q:=λ c hb ws h' a=>q c hb ws h' (aF l a)
section
variable {h₀ h : H} {A : WA} {N : List gT} {g : Rg} {T : List D} {m : Nat}
theorem AO(l:le a b):le (rm a k) b:=aF L8 l
theorem vI{Q:V->H->Prop}(X:eR h₀ A N g T m h)(q:Told h₀ A N T Q):eO (.ret (.ref A.td)) Q h:=by
 refine aG X.td λ vs d f=>?_
 have nt:=X.nt
 have t0:rm h₀ A.lf A.td=none:=by unfold rm;split;rfl;exact X.t0
 have n0:rm h₀ A.lf A.nm=none:=by unfold rm;split;rfl;exact X.n0
 exact bD (av _) (q A.td (aC (rm h₀ A.lf) A.td (.list vs)) vs h (aA t0) ((bu nt).trans n0) (jb d (AO X.le)) (aa ..) (iT (aA t0) _ _ f) X.nm)
theorem mU{Q K:V->H->Prop}(hK:∀v h,eO (.ret v) Q h->K v h)(X:eR h₀ A N g T m h)(hm:m<=900)(hv:E8 (rm h₀ A.lf) d v)(q:Told h₀ A N (T++[d]) Q):iL [v] (λ w h=>eG .add (.ref A.td) w K h) h:=by
 refine aG X.td λ vs a f=>?_
 have t0:=X.t0
 have vl:vs.length<=m:=by rw[iY f];exact X.tl
 refine bf (sm rfl) λ x hx=>?_;refine Nc (ax a hx) (aa ..) (by show vs.length+1<aZ;exact cO (jj (cV vl hm)) (by decide)) λ c hc=>?_
 have c1:=aD hc
 have bI:=aF X.le (aA (o:=.list [v]) hx)
 have c0:rm h₀ A.lf c=none:=bn (AO bI) hc
 have n0:rm h₀ A.lf A.nm=none:=by unfold rm;split;rfl;exact X.n0
 have cn:A.nm≠c:=aj (ax X.nm hx) hc
 refine hK _ _ (bD (av _) (q c (aC (rm h₀ A.lf) c (.list (vs++[v]))) (vs++[v]) _ (aA c0) ((bu cn).trans n0) (eS (AO bI)) (aa ..) (rQ (iT (aA c0) _ _ f) ⟨v,[],rfl,Gw (aA c0) _ _ hv,rfl⟩) ?_))
 exact ax (ax X.nm hx) hc
end
theorem o6(h0:(x0+(1:Nat))<=x1):x1=((x1-(1:Nat))+(1:Nat)):=dP (ai [x1,(x1-1),x0] X0 (Pl X1 (Nm 1)) 1 X0 (Pl X1 (Nm 1)) rfl (Az _ _)) (ai [(x1-1),x1,x0] (Pl X0 (Nm 1)) X1 1 (Pl X0 (Nm 1)) X1 rfl (AA (ai [x1,x0] (Nm 1) X0 1 (Pl X1 (Nm 1)) X0 rfl h0)))
theorem gH{n0 of i m k:Nat}{K:Out->Fr->H->Prop}(G:WK U B)(hu:bF hb x U)(gZ:hb of=some (.ao es))(hi:∀r:Nat,r<U.count->aE es (r:Int)=some (.int (r:Int)))(e:U.blocks[i]?=some b)(lb:le hb h₀)(X:eR h₀ A s.N s.g s.T m h)(d:Df ((B[i]?).getD 0) s.g)(hm:m+20<=700)
  (q:∀re h' jZ kS,le h₀ re->eR re A (bR b.ops s).N (bR b.ops s).g (bR b.ops s).T (m+10) h'->Df (b7 U B b.end_) (bR b.ops s).g->
   wB (ah prog (n0+2)) nN [some (.ref A.nm),some (.ref x.u),some (.ref of),s3,some (.ref A.hd),some (.ref A.td),some (.int i),s7,s8,s9,jZ,kS,some b.end_.v,wx,xO,CP,none,none,none] (λ o fr h=>oO o (cj (wE (ah prog (n0+2)) gq) (wB (ah prog (n0+2)) gr) k fr K h) λ v=>K (.ret v) fr h) h'):
  cj (wE (ah prog (n0+2)) gq) (wB (ah prog (n0+2)) gr) (k+1) [some (.ref A.nm),some (.ref x.u),some (.ref of),s3,some (.ref A.hd),some (.ref A.td),some (.int i),s7,s8,s9,jZ,kS,uE,wx,xO,CP,none,none,none] K h:=by
 have Sb:=G.jK.gY i b e
 refine nQ (hu.at_ (fQ e).1) λ y b' e1 e2 Kb=>?_
 rw[e] at e2;obtain rfl:=c8 e2
 have tW:=(hu.le lb).le X.le
 rw[G.B i b e] at d
 have ol:=G.ol i b e
 refine kB ?_;refine ay tW.u rfl ?_;refine cQ tW.bs (xM e1) ?_;refine ay ((Kb.le lb).le X.le).b rfl ?_;refine cA ((Kb.le lb).le X.le).o (be Sb.oF) ?_
 refine Ep gZ Kb.o hi b.ops s m kS h₀ h lb X (by exact aS [_,_] (Pl X0 (Ml 5 X1)) (Nm 800) 1 (Pl X0 (Nm 20)) (Nm 700) 5 X1 (Nm 2) rfl hm ol) (λ o mo r hr=>(Sb.ops o mo).2 r hr) d λ z bB h' bI aO=>?_
 refine ay (((Kb.le lb).le bI).le aO.le).b rfl ?_;refine fE ?_
 exact q bB h' _ z bI (aO.mono (by exact ai [_,_] (Pl X0 (Ml 5 X1)) (Pl X0 (Nm 10)) 5 X1 (Nm 2) rfl ol)) (Df.ops d)
theorem Er{Q:V->H->Prop}{K:Out->Fr->H->Prop}(G:WK U B)(hu:bF hb x U)(gZ:hb of=some (.ao es))(hi:∀r:Nat,r<U.count->aE es (r:Int)=some (.int (r:Int)))(hl:hb A.lf=none)(hK:∀v fr h,eO (.ret v) Q h->K (.ret v) fr h)(w:Walk U n i left s N T):
  ∀{m k:Nat} {h₀ h:H} {s8 s9 jZ kS uE wx xO CP:Option V},le hb h₀->eR h₀ A s.N s.g s.T m h->h₀ A.lf=some (.list (left.map V.int))->left.length<=10->Df ((B[i]?).getD 0) s.g->m+20*n<=700->n<=k->Told h₀ A N T Q->
  cj (wE (ah prog (n0+2)) gq) (wB (ah prog (n0+2)) gr) k [some (.ref A.nm),some (.ref x.u),some (.ref of),s3,some (.ref A.hd),some (.ref A.td),some (.int i),some (.ref A.lf),s8,s9,jZ,kS,uE,wx,xO,CP,none,none,none] K h:=by
 induction w with
 |@goto n i j left s b l N T e he w ih=>
  intro m k h₀ h s8 s9 jZ kS uE wx xO CP lb X L ll d hm hk q
  obtain⟨k,rfl⟩:∃k',k=k'+1:=⟨k-1,by exact o6 hk⟩
  refine gH G hu gZ hi e lb X d (by exact ai [_,_] (Pl X0 (Nm 20)) (Nm 700) 1 (Pl X0 (Ml 20 (Pl X1 (Nm 1)))) (Nm 700) rfl hm) λ bB h' jZ kS bI aO k9=>?_
  refine bV (G.go i b e j l he) λ g1 g2=>?_
  have Sb:=G.jK.gY i b e
  rw[he] at k9⊢
  have nz:=k9.goto g2
  have Me:=aF lb bI
  have hs:(aB l).length<aZ:=by rw[ac];exact cO g1 (by decide)
  have hj:=Sb.to j (by rw[he];exact .head _)
  refine nQ (hu.at_ hj) λ y b' e1 e2 Kb=>?_
  have pe:=Un.qo e2
  have ps:(aB (U.par j)).length<aZ:=by rw[ac,g2,←ac];exact hs
  refine az rfl ?_;refine az rfl ?_;refine fP hs ?_
  refine qE aO (Me _ _ gZ) hi (λ u0=>rfl) (λ u0=>rfl) (λ u0=>rfl) l [] (λ r mr=>Sb.ends r (by rw[he];exact mr)) nz.1 ?_
  refine bf (l:=aB (l.map (gv (bR b.ops s).g))) (by rw[ac,dR,←ac];exact hs) λ z hz=>?_
  have aM:=aO.base (o:=.list (aB (l.map (gv (bR b.ops s).g)))) hz
  have cq:=aF bI (aA (o:=.list (aB (l.map (gv (bR b.ops s).g)))) (bn aO.le hz))
  have ez:=aa bB z (.list (aB (l.map (gv (bR b.ops s).g))))
  have lz:=aA (o:=.list (aB (l.map (gv (bR b.ops s).g)))) (bn aO.le hz)
  have hL:bB A.lf=some (.list (left.map V.int)):=bI _ _ L
  clear aO hz
  generalize aC bB z (.list (aB (l.map (gv (bR b.ops s).g))))=cN at*
  have Cj:=aF Me lz
  have dM:=(hu.le Cj).le aM.le
  have hp:=(Kb.le Cj).p
  rw[pe] at ps
  refine ay dM.u rfl ?_;refine az rfl ?_;refine cQ dM.bs (xM e1) ?_;refine ay ((Kb.le Cj).le aM.le).b rfl ?_;refine LQ (aM.le _ _ hp) (aM.le _ _ ez) ps (by rw[ac,dR,←ac];exact hs) ?_
  refine vH (Cj _ _ gZ) hi (λ h l=>⟨l _ _ hp,l _ _ ez⟩) b'.params (l.map (gv (bR b.ops s).g)) _ _ xO CP _ aM (by rw[←pe];exact fH [_,_,_,_] (Pl (Pl X0 (Nm 10)) X1) (Nm 900) 1 (Pl X0 (Ml 20 (Pl X2 (Nm 1)))) (Nm 700) 1 X3 (Nm 2) 1 X1 X3 rfl hm g1 (bw g2)) (G.jK.gY j b' e2).params λ z z' h' bG=>?_
  rw[←pe] at bG
  refine az rfl ?_
  exact ih (aF lb cq) (bG.mono (m':=m+20) (by exact aS [_,_,_] (Pl (Pl X0 (Nm 10)) X1) (Pl X0 (Nm 20)) 1 X2 (Nm 2) 1 X1 X2 rfl g1 (bw g2))) (lz _ _ hL) ll nz.2 (by exact ai [_,_] (Pl (Pl X0 (Nm 20)) (Ml 20 X1)) (Nm 700) 1 (Pl X0 (Ml 20 (Pl X1 (Nm 1)))) (Nm 700) rfl hm) (by exact ai [_,_] X0 X1 1 (Pl X0 (Nm 1)) (Pl X1 (Nm 1)) rfl hk) (q.le (eT cq))
 |@stop n i c t f s b e he=>
  intro m k h₀ h s8 s9 jZ kS uE wx xO CP lb X L ll d hm hk q
  obtain⟨k,rfl⟩:∃k',k=k'+1:=⟨k-1,by exact o6 hk⟩
  refine gH G hu gZ hi e lb X d (by exact ai [_,_] (Pl X0 (Nm 20)) (Nm 700) 1 (Pl X0 (Ml 20 (Pl X1 (Nm 1)))) (Nm 700) rfl hm) λ bB h' jZ kS bI aO k9=>?_
  have hc:=(G.jK.gY i b e).ends c (by rw[he];exact .head _)
  rw[he] at k9⊢
  have nz:=k9.br (G.br i b e c t f he)
  refine az rfl ?_;refine az rfl ?_;refine mM aO ?_;refine az rfl ?_;refine dj (aO.le _ _ (bI _ _ (lb _ _ gZ))) (hi c hc) ?_;refine xN aO nz.1 ?_;refine bT (sm rfl) ?_;refine DF (d:=rh (gv (bR b.ops s).g c)) aO (by exact ai [_,_] (Pl X0 (Nm 10)) (Nm 900) 1 (Pl X0 (Ml 20 (Pl X1 (Nm 1)))) (Nm 700) rfl hm) ⟨_,rfl,_,_,rfl,rfl,_,_,rfl,rfl,rfl⟩ λ cN aM=>?_
  refine nX (aM.le _ _ (bI _ _ L)) ?_
  exact hK _ _ _ (vI aM (q.le (eT bI)))
 |@br n i c t f x left s b N T e he w ih=>
  intro m k h₀ h s8 s9 jZ kS uE wx xO CP lb X L ll d hm hk q
  obtain⟨k,rfl⟩:∃k',k=k'+1:=⟨k-1,by exact o6 hk⟩
  refine gH G hu gZ hi e lb X d (by exact ai [_,_] (Pl X0 (Nm 20)) (Nm 700) 1 (Pl X0 (Ml 20 (Pl X1 (Nm 1)))) (Nm 700) rfl hm) λ bB h' jZ kS bI aO k9=>?_
  have hc:=(G.jK.gY i b e).ends c (by rw[he];exact .head _)
  rw[he] at k9⊢
  have nz:=k9.br (G.br i b e c t f he)
  have MS:left.length+1<=10:=ll
  refine az rfl ?_;refine az rfl ?_;refine mM aO ?_;refine az rfl ?_;refine dj (aO.le _ _ (bI _ _ (lb _ _ gZ))) (hi c hc) ?_;refine xN aO nz.1 ?_;refine bT (sm rfl) ?_;refine DF (d:=rh (gv (bR b.ops s).g c)) aO (by exact ai [_,_] (Pl X0 (Nm 10)) (Nm 900) 1 (Pl X0 (Ml 20 (Pl X1 (Nm 1)))) (Nm 700) rfl hm) ⟨_,rfl,_,_,rfl,rfl,_,_,rfl,rfl,rfl⟩ λ cN aM=>?_
  refine nX (aM.le _ _ (bI _ _ L)) ?_;refine bC (aM.le _ _ (bI _ _ L)) ?_;refine PG (w:=.int x) (l:=left.map V.int) (aM.le _ _ (bI _ _ L)) (by rw[dR];exact cO MS (by decide)) ?_
  have bG:=aM.pop (o:=.list (left.map V.int))
  have yA:=aQ (o:=.list (left.map V.int)) (aF lb bI) hl
  have FD:Told (aC bB A.lf (.list (left.map V.int))) A N T Q:=q.le (by simp only[wD];exact eT bI)
  refine oX (λ z=>?_) (λ z=>?_)
  ·rw[if_pos (gS z)] at ih
   refine az rfl ?_
   exact ih yA (bG.mono (m':=m+20) (by exact aL [_] (Pl (Pl X0 (Nm 10)) (Nm 1)) (Pl X0 (Nm 20)) rfl)) (aa ..) (by exact ai [_] X0 (Nm 10) 1 (Pl X0 (Nm 1)) (Nm 10) rfl MS) nz.2.1 (by exact ai [_,_] (Pl (Pl X0 (Nm 20)) (Ml 20 X1)) (Nm 700) 1 (Pl X0 (Ml 20 (Pl X1 (Nm 1)))) (Nm 700) rfl hm) (by exact ai [_,_] X0 X1 1 (Pl X0 (Nm 1)) (Pl X1 (Nm 1)) rfl hk) FD
  ·rw[if_neg (of_decide_eq_false z)] at ih
   refine az rfl ?_
   exact ih yA (bG.mono (m':=m+20) (by exact aL [_] (Pl (Pl X0 (Nm 10)) (Nm 1)) (Pl X0 (Nm 20)) rfl)) (aa ..) (by exact ai [_] X0 (Nm 10) 1 (Pl X0 (Nm 1)) (Nm 10) rfl MS) nz.2.2 (by exact ai [_,_] (Pl (Pl X0 (Nm 20)) (Ml 20 X1)) (Nm 700) 1 (Pl X0 (Ml 20 (Pl X1 (Nm 1)))) (Nm 700) rfl hm) (by exact ai [_,_] X0 X1 1 (Pl X0 (Nm 1)) (Pl X1 (Nm 1)) rfl hk) FD
 |@call n i f k left l s b e he=>
  intro m k' h₀ h s8 s9 jZ kS uE wx xO CP lb X L ll d hm hk q
  obtain⟨k',rfl⟩:∃Tk,k'=Tk+1:=⟨k'-1,by exact o6 hk⟩
  refine gH G hu gZ hi e lb X d (by exact ai [_,_] (Pl X0 (Nm 20)) (Nm 700) 1 (Pl X0 (Ml 20 (Pl X1 (Nm 1)))) (Nm 700) rfl hm) λ bB h' jZ kS bI aO k9=>?_
  have Sb:=G.jK.gY i b e
  have en:=Sb.ends
  have el:=Sb.kZ
  rw[he] at k9 en el⊢
  have el:l.length+1+1<=10:=el
  have nz:∀r∈f::k::l,∃v,(bR b.ops s).g r=some v:=λ r mr=>k9 r (aI.mpr (.inl mr))
  have jQ:=bI _ _ (lb _ _ gZ)
  refine az rfl ?_;refine az rfl ?_;refine az rfl ?_;refine az rfl ?_;refine dj (aO.le _ _ jQ) (hi f (en f (.head _))) ?_;refine xN aO (nz f (.head _)) ?_;refine az rfl ?_;refine dj (aO.le _ _ jQ) (hi k (en k (.tail _ (.head _)))) ?_;refine xN aO (nz k (.tail _ (.head _))) ?_;refine az rfl ?_;refine fP (by rw[ac];exact cO (show l.length<=10 by exact ai [_] X0 (Nm 10) 1 (Pl (Pl X0 (Nm 1)) (Nm 1)) (Nm 10) rfl el) (by decide)) ?_
  refine qE aO jQ hi (λ u0=>rfl) (λ u0=>rfl) (λ u0=>rfl) l [] (λ r mr=>en r (.tail _ (.tail _ mr))) (λ r mr=>nz r (.tail _ (.tail _ mr))) ?_
  refine bf (l:=aB (l.map (gv (bR b.ops s).g))) (by rw[ac,dR];exact cO (show l.length<=10 by exact ai [_] X0 (Nm 10) 1 (Pl (Pl X0 (Nm 1)) (Nm 1)) (Nm 10) rfl el) (by decide)) λ z hz=>?_
  have aM:=aO.base (o:=.list (aB (l.map (gv (bR b.ops s).g)))) hz
  have lz:=aA (o:=.list (aB (l.map (gv (bR b.ops s).g)))) (bn aO.le hz)
  have ez:=jq (aa bB z (.list (aB (l.map (gv (bR b.ops s).g))))) (aO.MR hz)
  refine bT (sm rfl) ?_
  exact mU (d:=yy (gv (bR b.ops s).g f) (gv (bR b.ops s).g k) (l.map (gv (bR b.ops s).g))) (λ v h=>hK v _ h) aM (by exact ai [_,_] (Pl X0 (Nm 10)) (Nm 900) 1 (Pl X0 (Ml 20 (Pl X1 (Nm 1)))) (Nm 700) rfl hm) ⟨_,rfl,_,_,rfl,rfl,_,_,rfl,rfl,_,_,rfl,rfl,_,_,rfl,⟨z,_,rfl,ez,hV _ _⟩,rfl⟩ (q.le (eT (aF bI lz)))
 |@give n i f left l s b e he=>
  intro m k' h₀ h s8 s9 jZ kS uE wx xO CP lb X L ll d hm hk q
  obtain⟨k',rfl⟩:∃Tk,k'=Tk+1:=⟨k'-1,by exact o6 hk⟩
  refine gH G hu gZ hi e lb X d (by exact ai [_,_] (Pl X0 (Nm 20)) (Nm 700) 1 (Pl X0 (Ml 20 (Pl X1 (Nm 1)))) (Nm 700) rfl hm) λ bB h' jZ kS bI aO k9=>?_
  have Sb:=G.jK.gY i b e
  have en:=Sb.ends
  have el:=Sb.kZ
  rw[he] at k9 en el⊢
  have el:l.length+1<=10:=el
  have nz:∀r∈f::l,∃v,(bR b.ops s).g r=some v:=λ r mr=>k9 r (aI.mpr (.inl mr))
  have jQ:=bI _ _ (lb _ _ gZ)
  refine az rfl ?_;refine az rfl ?_;refine az rfl ?_;refine az rfl ?_;refine dj (aO.le _ _ jQ) (hi f (en f (.head _))) ?_;refine xN aO (nz f (.head _)) ?_;refine az rfl ?_;refine fP (by rw[ac];exact cO (show l.length<=10 by exact ai [_] X0 (Nm 10) 1 (Pl X0 (Nm 1)) (Nm 10) rfl el) (by decide)) ?_
  refine qE aO jQ hi (λ u0=>rfl) (λ u0=>rfl) (λ u0=>rfl) l [] (λ r mr=>en r (.tail _ mr)) (λ r mr=>nz r (.tail _ mr)) ?_
  refine bf (l:=aB (l.map (gv (bR b.ops s).g))) (by rw[ac,dR];exact cO (show l.length<=10 by exact ai [_] X0 (Nm 10) 1 (Pl X0 (Nm 1)) (Nm 10) rfl el) (by decide)) λ z hz=>?_
  have aM:=aO.base (o:=.list (aB (l.map (gv (bR b.ops s).g)))) hz
  have lz:=aA (o:=.list (aB (l.map (gv (bR b.ops s).g)))) (bn aO.le hz)
  have ez:=jq (aa bB z (.list (aB (l.map (gv (bR b.ops s).g))))) (aO.MR hz)
  refine bT (sm rfl) ?_
  exact mU (d:=yz (gv (bR b.ops s).g f) (l.map (gv (bR b.ops s).g))) (λ v h=>hK v _ h) aM (by exact ai [_,_] (Pl X0 (Nm 10)) (Nm 900) 1 (Pl X0 (Ml 20 (Pl X1 (Nm 1)))) (Nm 700) rfl hm) ⟨_,rfl,_,_,rfl,rfl,_,_,rfl,rfl,_,_,rfl,⟨z,_,rfl,ez,hV _ _⟩,rfl⟩ (q.le (eT (aF bI lz)))
noncomputable def gE:Nat->List Nat->RS->RS
 |_,[],s=>s
 |p,r::E,s=>gE (p+1) E ⟨dv s.N [.s .l9,.i p],aV s.g r (pos [.s .l9,.i p] s.N),s.T⟩
noncomputable def RS.zero(N:List gT):RS:=⟨N,λ u0=>none,[]⟩
theorem jm.nil:jm [] (λ u0=>none):=⟨λ u0=>rfl⟩
theorem Db(e:h k=none):le h (rm h k):=λ x o y=>jq y λ z=>by simp only[z,e] at y;exact dD y
theorem Et{n of c e u:Nat}{K:Out->Fr->H->Prop}(gZ:h₀ of=some (.ao es))(he:h₀ e=some (.list Xh))(hi:∀r:Nat,r<c->aE es (r:Int)=some (.int (r:Int))):
  ∀(E:List Nat) (p:Nat) (s:RS) (m:Nat) (z z':Option V) (h:H),eR h₀ A s.N s.g s.T m h->m+2*E.length<=800->(∀r∈E,r<c)->
  (∀z z' h',eR h₀ A (gE p E s).N (gE p E s).g (gE p E s).T (m+2*E.length) h'->K .next [some (.ref A.nm),s1,some (.ref of),s3,some (.ref A.hd),some (.ref A.td),s6,s7,z,z',jZ,kS,uE,wx,xO,CP,O2,O3,O4] h')->
  cw [8,9] (wB (ah prog (n+1)) nK) (λ h'=>h' e=some (.list Xh)) (iK p (aB E)) [some (.ref A.nm),s1,some (.ref of),s3,some (.ref A.hd),some (.ref A.td),s6,s7,z,z',jZ,kS,uE,wx,xO,CP,O2,O3,O4] K h:=by
 intro xR
 induction xR with
 |nil=>
  intro p s m z z' h X _ _ q
  exact kR (X.le _ _ he) (q z z' h X)
 |cons r E aU=>
  intro p s m z z' h X hm hr q
  have kL:m+2*(E.length+1)<=800:=hm
  refine f9 (X.le _ _ he) ?_;refine bT (sm rfl) ?_;refine sW (k:=[.s .l9,.i p]) X (by exact ai [_,_] X0 (Nm 900) 1 (Pl X0 (Ml 2 (Pl X1 (Nm 1)))) (Nm 800) rfl kL) rfl λ bB aO=>?_;refine dj (aO.le _ _ gZ) (hi r (hr r (.head _))) ?_;refine wt aO (by exact ai [_,_] (Pl X0 (Nm 1)) (Nm 900) 1 (Pl X0 (Ml 2 (Pl X1 (Nm 1)))) (Nm 800) rfl kL) λ cN aM=>?_
  have ih:=aU (p+1) ⟨dv s.N [.s .l9,.i p],aV s.g r (pos [.s .l9,.i p] s.N),s.T⟩ (m+2) (some (.int p)) (some (.int r)) cN aM (by exact ai [_,_] (Pl (Pl X0 (Nm 2)) (Ml 2 X1)) (Nm 800) 1 (Pl X0 (Ml 2 (Pl X1 (Nm 1)))) (Nm 800) rfl kL) (λ r mr=>hr r (.tail _ mr)) λ z z' h' bG=>q z z' h' (bG.mono (by simp only[List.length_cons];exact aL [_,_] (Pl (Pl X0 (Nm 2)) (Ml 2 X1)) (Pl X0 (Ml 2 (Pl X1 (Nm 1)))) rfl))
  exact ih
theorem vf{Q:V->H->Prop}(G:WK U B)(hu:bF hb x U)(gZ:hb of=some (.ao es))(hi:∀r:Nat,r<U.count->aE es (r:Int)=some (.int (r:Int)))(lb:le hb h)(hn:h nm=some (.b9 (CO [])))(nb:hb nm=none)(hw:hb wa=some (.list (left.map V.int)))(ll:left.length<=10)(el:U.entry.length<=2)
  (w:Walk U n 0 left (gE 0 U.entry (.zero [])) N T)(nn:n<=10)(d:Df ((B[0]?).getD 0) (gE 0 U.entry (.zero [])).g)
  (q:∀c fO ws h',le hb fO->fO nm=none->le fO h'->fO c=some (.list ws)->ny fO T ws->h' nm=some (.b9 (CO N))->Q (.ref c) h'):ah prog (n0+3) .tu [.ref nm,.ref x.u,.ref of,.ref wa] Q h:=by
 have ws:(left.map V.int).length<aZ:=by rw[dR];exact cO ll (by decide)
 refine bJ rfl ?_;refine cR λ hd h1=>?_;refine bf (sm rfl) λ td h2=>?_
 have cq:=aX (o:=.list []) (aX (o:=.ao []) lb h1) h2
 refine sR (cq _ _ hw) ws λ lf h3=>?_;refine bT (sm rfl) ?_;refine F3 rfl ?_;refine fE ?_
 have O5:=aD h2
 have O6:=aD h3
 have Av:=aD O6.2
 have n1:=aj hn h1
 have n2:=aj hn O5.2
 have n3:=aj hn Av.2
 have b1:=bn lb h1
 have b2:=bn lb O5.2
 have b3:=bn lb Av.2
 have X:eR (aC hb lf (.list (left.map V.int))) ⟨nm,hd,td,lf⟩ [] (λ u0=>none) [] 0 (aC (aC (aC h hd (.ao [])) td (.list [])) lf (.list (left.map V.int))):=
  ⟨eS cq,(bu n3).trans nb,(bu Av.1.symm).trans b1,(bu O6.1.symm).trans b2,ax (ax (ax hn h1) h2) h3,⟨[],ax (ax (aa ..) h2) h3,.nil,bE _⟩,⟨[],ax (aa ..) h3,rfl⟩,bE _,bE _,⟨_,aa ..⟩⟩
 have lu:=aA (o:=.list (left.map V.int)) b3
 have tW:=hu.le lu
 refine ay (tW.le X.le).u rfl ?_;refine FR (tW.le X.le).e (by rw[ac];exact cO el (by decide)) ?_
 refine Et (n:=n0+1) (u:=x.u) (A:=⟨nm,hd,td,lf⟩) (lu _ _ gZ) tW.e hi U.entry 0 (.zero []) 0 none none _ X (by exact ai [_] (Pl (Nm 0) (Ml 2 X0)) (Nm 800) 2 X0 (Nm 2) rfl el) G.jK.entry λ z z' h' aO=>?_
 refine fE ?_;refine nY 10 ?_
 refine Er (A:=⟨nm,hd,td,lf⟩) (hb:=hb) G hu gZ hi b3 (λ v fr h z=>z) w lu aO (aa ..) ll d (by exact aS [_,_] (Pl (Pl (Nm 0) (Ml 2 X0)) (Ml 20 X1)) (Nm 700) 2 X0 (Nm 2) 20 X1 (Nm 10) rfl el nn) nn λ c fO ws h' a1 a2 a3 a4 a5 a6=>?_
 exact q c fO ws h' (aF (Db b3) (by rw[wD] at a1;exact a1)) a2 a3 a4 a5 a6
inductive Run (C:List dn) (lab:Nat->Int) (R:Nat):Nat->Nat->List Int->RS->List gT->List D->Prop where
 |op {n i:Nat} {left:List Int} {s:RS} {o:Op} {N:List gT} {T:List D} (e:C[i]?=some (.op o)) (rg:∀r∈o.e9,r<R) (d:∀r∈o.reads,∃v,s.g r=some v) (w:Run C lab R n (i+1) left (qf o s) N T):Run C lab R (n+1) i left s N T
 |mv {n i t f:Nat} {left:List Int} {s:RS} {N:List gT} {T:List D} (e:C[i]?=some (.mv t f)) (d:∃v,s.g f=some v) (w:Run C lab R n (i+1) left ⟨s.N,aV s.g t (gv s.g f),s.T⟩ N T):Run C lab R (n+1) i left s N T
 |d7 {n i b j:Nat} {left:List Int} {s:RS} {N:List gT} {T:List D} (e:C[i]?=some (.d7 b)) (l:lab b=(j:Int)) (w:Run C lab R n j left s N T):Run C lab R (n+1) i left s N T
 |stop {n i p b:Nat} {s:RS} (e:C[i]?=some (.br p b)) (d:∃v,s.g p=some v):Run C lab R (n+1) i [] s s.N (s.T++[rh (gv s.g p)])
 |br {n i p b j:Nat} {x:Int} {left:List Int} {s:RS} {N:List gT} {T:List D} (e:C[i]?=some (.br p b)) (d:∃v,s.g p=some v) (l:lab b=(j:Int)) (w:Run C lab R n (if 0<x then i+1 else j) left (s.say (rh (gv s.g p))) N T):Run C lab R (n+1) i (x::left) s N T
 |call {n i f k:Nat} {left:List Int} {l:List Nat} {s:RS} (e:C[i]?=some (.call f k l)) (ll:l.length<=10) (d:∀r∈f::k::l,∃v,s.g r=some v):Run C lab R (n+1) i left s s.N (s.T++[yy (gv s.g f) (gv s.g k) (l.map (gv s.g))])
 |give {n i f:Nat} {left:List Int} {l:List Nat} {s:RS} (e:C[i]?=some (.give f l)) (ll:l.length<=10) (d:∀r∈f::l,∃v,s.g r=some v):Run C lab R (n+1) i left s s.N (s.T++[yz (gv s.g f) (l.map (gv s.g))])
section
variable {h₀ h : H} {A : WA} {N : List gT} {g : Rg} {T : List D} {m : Nat}
theorem tP{K:List V->H->Prop}(X:eR h₀ A N g T m h)
  (f4:∀v,(fr.set sl (some v))[4]?=some (some (.ref A.hd)))(fs:∀v,(fr.set sl (some v))[sl]?=some (some v)):∀(l acc:List Nat),(∀r∈l,∃v,g r=some v)->K (aB (acc++l.map (gv g))) h->
  dY sl (kJ C lq) (wE C (.sub (.var 4) (.var sl))) (λ u0=>True) fr (aB l) (aB acc) K h:=by
 intro xR
 induction xR with
 |nil=>
  intro acc _ q
  exact xZ (by rw[List.map_nil,eE] at q;exact q)
 |cons r l aU=>
  intro acc d q
  have ih:=aU (acc++[gv g r]) (λ r mr=>d r (.tail _ mr)) (by rw[d6];exact q)
  rw[bg] at ih
  refine qe ?_;refine wn (f4 _) ?_;refine wn (fs _) ?_;refine xN X (d r (.head _)) ?_;exact ih
theorem fe{C:List dn}{lab:Nat->Int}{K:Out->Fr->H->Prop}(hp:h pr=some (.inst .dB fs))(fp:eM fs .bv=some (.ref ia))(hi:h ia=some (.list (C.map (dn.v lab))))(hC:C.length<=1000)(e:C[i]?=some y)
  (q:wB CC pM [s0,some (.ref pr),s2,s3,some (.ref A.hd),s5,some (.int (i+1:Nat)),s7,s8,s9,jZ,some (y.v lab),uE,wx,xO] K h):
  wB CC kr [s0,some (.ref pr),s2,s3,some (.ref A.hd),s5,some (.int i),s7,s8,s9,jZ,kS,uE,wx,xO] K h:=by
 have il:=(fQ e).1
 have hs:(C.map (dn.v lab)).length<aZ:=by rw[dR];exact cO hC (by decide)
 refine ay hp fp ?_;refine qi hi hs ?_;refine oX (λ c=>absurd c ?_) (λ u0=>?_)
 ·rw[dE (show(i:Int)<((C.map (dn.v lab)).length:Nat) by rw[dR];exact jk il)];decide
 ·have ey:(C.map (dn.v lab))[i]?=some (y.v lab):=by rw[List.getElem?_map,e];rfl
  refine ay hp fp ?_;refine wn rfl ?_;refine cQ hi (tc ey) ?_;refine oE (p:=i) (q:=1) (by exact aS [_,_] (Pl (Pl X0 (Nm 1)) (Nm 1)) (Nm 2000000) 1 X1 (Nm 1000) 1 (Pl X0 (Nm 1)) X1 rfl hC il) ?_;refine fE ?_
  exact q
end
theorem J1(h0:(x0+(1:Nat))<=x1):x1=((x1-(1:Nat))+(1:Nat)):=dP (ai [x1,(x1-1),x0] X0 (Pl X1 (Nm 1)) 1 X0 (Pl X1 (Nm 1)) rfl (Az _ _)) (ai [(x1-1),x1,x0] (Pl X0 (Nm 1)) X1 1 (Pl X0 (Nm 1)) X1 rfl (AA (ai [x1,x0] (Nm 1) X0 1 (Pl X1 (Nm 1)) X0 rfl h0)))
theorem Op.word(o:Op):∃w l,o.v=.tup (.str w::l)/\decide (w=.move)=false/\decide (w=.d7)=false/\decide (w=.dJ)=false/\decide (w=.call)=false/\decide (w=.give)=false:=by
 cases o<;>exact⟨_,_,rfl,rfl,rfl,rfl,rfl,rfl⟩
theorem Hu{lab:Nat->Int}{Q:V->H->Prop}{K:Out->Fr->H->Prop}(hp:hb pr=some (.inst .dB fs))(fp:eM fs .bv=some (.ref ia))(IZ:hb ia=some (.list (C.map (dn.v lab))))(hC:C.length<=1000)(gZ:hb of=some (.ao es))(hi:∀r:Nat,r<R->aE es (r:Int)=some (.int (r:Int)))(hl:hb A.lf=none)(hK:∀v fr h,eO (.ret v) Q h->K (.ret v) fr h)(w:Run C lab R n i left s N T):
  ∀{m k:Nat} {t:Int} {h₀ h:H} {jZ kS:Option V},le hb h₀->eR h₀ A s.N s.g s.T m h->h₀ A.lf=some (.list (left.map V.int))->left.length<=10->m+5*n<=700->n<=k->Told h₀ A N T Q->
  cw [10] (wB (ah prog (n0+2)) kr) (λ u0=>True) (dH t k) [some (.ref A.nm),some (.ref pr),s2,s3,some (.ref A.hd),some (.ref A.td),some (.int i),some (.ref A.lf),s8,some (.ref of),jZ,kS,none,none,none] K h:=by
 have succ:∀{n k:Nat},n+1<=k->∃k',k=k'+1:=λ{n k} h=>⟨k-1,by exact J1 h⟩
 induction w with
 |@op n i left s o N T e rg d w ih=>
  intro m k t h₀ h jZ kS lb X L ll hm hk q
  refine aK (succ hk) λ k ak=>?_;obtain rfl:=ak
  have lh:=aF lb X.le
  refine wv ?_;refine fe (A:=A) (lh _ _ hp) fp (lh _ _ IZ) hC e ?_
  refine WE o.word λ wd l ev h1 h2 h3 h4 h5=>?_
  refine An ev rfl ?_;refine sM h1 ?_;refine An ev rfl ?_;refine sM h2 ?_;refine An ev rfl ?_;refine sM h3 ?_;refine An ev rfl ?_;refine sM h4 ?_;refine An ev rfl ?_;refine sM h5 ?_
  refine rR (o:=o) X (by exact ai [_,_] X0 (Nm 800) 1 (Pl X0 (Ml 5 (Pl X1 (Nm 1)))) (Nm 700) rfl hm) (lb _ _ gZ) (λ r mr=>hi r (rg r mr)) d λ bB h' bI aO=>?_
  exact ih (aF lb bI) aO (bI _ _ L) ll (by exact ai [_,_] (Pl (Pl X0 (Nm 5)) (Ml 5 X1)) (Nm 700) 1 (Pl X0 (Ml 5 (Pl X1 (Nm 1)))) (Nm 700) rfl hm) (by exact ai [_,_] X0 X1 1 (Pl X0 (Nm 1)) (Pl X1 (Nm 1)) rfl hk) (q.le (eT bI))
 |@mv n i a b left s N T e d w ih=>
  intro m k t h₀ h jZ kS lb X L ll hm hk q
  refine aK (succ hk) λ k ak=>?_;obtain rfl:=ak
  have lh:=aF lb X.le
  refine wv ?_;refine fe (A:=A) (lh _ _ hp) fp (lh _ _ IZ) hC e ?_
  refine az rfl ?_;refine wV X ?_;refine az rfl ?_;refine F4 X d ?_;refine az rfl ?_;refine wt X (by exact ai [_,_] X0 (Nm 900) 1 (Pl X0 (Ml 5 (Pl X1 (Nm 1)))) (Nm 700) rfl hm) λ h' aO=>?_
  exact ih lb (aO.mono (m':=m+5) (by exact aL [_] (Pl X0 (Nm 1)) (Pl X0 (Nm 5)) rfl)) L ll (by exact ai [_,_] (Pl (Pl X0 (Nm 5)) (Ml 5 X1)) (Nm 700) 1 (Pl X0 (Ml 5 (Pl X1 (Nm 1)))) (Nm 700) rfl hm) (by exact ai [_,_] X0 X1 1 (Pl X0 (Nm 1)) (Pl X1 (Nm 1)) rfl hk) q
 |@d7 n i b j left s N T e l w ih=>
  intro m k t h₀ h jZ kS lb X L ll hm hk q
  refine aK (succ hk) λ k ak=>?_;obtain rfl:=ak
  have lh:=aF lb X.le
  refine wv ?_;refine fe (A:=A) (lh _ _ hp) fp (lh _ _ IZ) hC e ?_
  rw[show(dn.d7 b).v lab=.tup [.str .d7,.int (j:Int)] by rw[←l];rfl]
  refine az rfl ?_;refine az rfl ?_;refine az rfl ?_
  exact ih lb (X.mono (m':=m+5) (by exact aL [_] X0 (Pl X0 (Nm 5)) rfl)) L ll (by exact ai [_,_] (Pl (Pl X0 (Nm 5)) (Ml 5 X1)) (Nm 700) 1 (Pl X0 (Ml 5 (Pl X1 (Nm 1)))) (Nm 700) rfl hm) (by exact ai [_,_] X0 X1 1 (Pl X0 (Nm 1)) (Pl X1 (Nm 1)) rfl hk) q
 |@stop n i p b s e d=>
  intro m k t h₀ h jZ kS lb X L ll hm hk q
  refine aK (succ hk) λ k ak=>?_;obtain rfl:=ak
  have lh:=aF lb X.le
  refine wv ?_;refine fe (A:=A) (lh _ _ hp) fp (lh _ _ IZ) hC e ?_
  refine az rfl ?_;refine az rfl ?_;refine az rfl ?_;refine mM X ?_;refine wV X ?_;refine az rfl ?_;refine F4 X d ?_;refine bT (sm rfl) ?_;refine DF (d:=rh (gv s.g p)) X (by exact ai [_,_] X0 (Nm 900) 1 (Pl X0 (Ml 5 (Pl X1 (Nm 1)))) (Nm 700) rfl hm) ⟨_,rfl,_,_,rfl,rfl,_,_,rfl,rfl,rfl⟩ λ cN aM=>?_
  refine nX (aM.le _ _ L) ?_
  exact hK _ _ _ (vI aM q)
 |@br n i p b j x left s N T e d l w ih=>
  intro m k t h₀ h jZ kS lb X L ll hm hk q
  refine aK (succ hk) λ k ak=>?_;obtain rfl:=ak
  have lh:=aF lb X.le
  have MS:left.length+1<=10:=ll
  refine wv ?_;refine fe (A:=A) (lh _ _ hp) fp (lh _ _ IZ) hC e ?_
  rw[show(dn.br p b).v lab=.tup [.str .dJ,.int p,.int (j:Int)] by rw[←l];rfl]
  refine az rfl ?_;refine az rfl ?_;refine az rfl ?_;refine mM X ?_;refine wV X ?_;refine az rfl ?_;refine F4 X d ?_;refine bT (sm rfl) ?_;refine DF (d:=rh (gv s.g p)) X (by exact ai [_,_] X0 (Nm 900) 1 (Pl X0 (Ml 5 (Pl X1 (Nm 1)))) (Nm 700) rfl hm) ⟨_,rfl,_,_,rfl,rfl,_,_,rfl,rfl,rfl⟩ λ cN aM=>?_
  refine nX (aM.le _ _ L) ?_;refine bC (aM.le _ _ L) ?_;refine PG (w:=.int x) (l:=left.map V.int) (aM.le _ _ L) (by rw[dR];exact cO MS (by decide)) ?_
  have bG:=aM.pop (o:=.list (left.map V.int))
  have yA:=aQ (o:=.list (left.map V.int)) lb hl
  have FD:Told (aC h₀ A.lf (.list (left.map V.int))) A N T Q:=q.le (by rw[wD];exact av _)
  refine oX (λ z=>?_) (λ z=>?_)
  ·rw[if_pos (gS z)] at ih
   exact ih yA (bG.mono (m':=m+5) (by exact aL [_] (Pl X0 (Nm 1)) (Pl X0 (Nm 5)) rfl)) (aa ..) (by exact ai [_] X0 (Nm 10) 1 (Pl X0 (Nm 1)) (Nm 10) rfl MS) (by exact ai [_,_] (Pl (Pl X0 (Nm 5)) (Ml 5 X1)) (Nm 700) 1 (Pl X0 (Ml 5 (Pl X1 (Nm 1)))) (Nm 700) rfl hm) (by exact ai [_,_] X0 X1 1 (Pl X0 (Nm 1)) (Pl X1 (Nm 1)) rfl hk) FD
  ·rw[if_neg (of_decide_eq_false z)] at ih
   refine az rfl ?_
   exact ih yA (bG.mono (m':=m+5) (by exact aL [_] (Pl X0 (Nm 1)) (Pl X0 (Nm 5)) rfl)) (aa ..) (by exact ai [_] X0 (Nm 10) 1 (Pl X0 (Nm 1)) (Nm 10) rfl MS) (by exact ai [_,_] (Pl (Pl X0 (Nm 5)) (Ml 5 X1)) (Nm 700) 1 (Pl X0 (Ml 5 (Pl X1 (Nm 1)))) (Nm 700) rfl hm) (by exact ai [_,_] X0 X1 1 (Pl X0 (Nm 1)) (Pl X1 (Nm 1)) rfl hk) FD
 |@call n i f g left l s e hl d=>
  intro m k t h₀ h jZ kS lb X L ll hm hk q
  refine aK (succ hk) λ k ak=>?_;obtain rfl:=ak
  have lh:=aF lb X.le
  refine wv ?_;refine fe (A:=A) (lh _ _ hp) fp (lh _ _ IZ) hC e ?_
  refine az rfl ?_;refine az rfl ?_;refine az rfl ?_;refine az rfl ?_;refine az rfl ?_;refine xN X (d f (.head _)) ?_;refine az rfl ?_;refine xN X (d g (.tail _ (.head _))) ?_;refine az rfl ?_;refine fP (by rw[ac];exact cO hl (by decide)) ?_
  refine tP X (λ u0=>rfl) (λ u0=>rfl) l [] (λ r mr=>d r (.tail _ (.tail _ mr))) ?_
  refine bf (l:=aB (l.map (gv s.g))) (by rw[ac,dR];exact cO hl (by decide)) λ z hz=>?_
  have aM:=X.base (o:=.list (aB (l.map (gv s.g)))) hz
  have lz:=aA (o:=.list (aB (l.map (gv s.g)))) (bn X.le hz)
  have ez:=jq (aa h₀ z (.list (aB (l.map (gv s.g))))) (X.MR hz)
  refine bT (sm rfl) ?_
  exact mU (d:=yy (gv s.g f) (gv s.g g) (l.map (gv s.g))) (λ v h=>hK v _ h) aM (by exact ai [_,_] X0 (Nm 900) 1 (Pl X0 (Ml 5 (Pl X1 (Nm 1)))) (Nm 700) rfl hm) ⟨_,rfl,_,_,rfl,rfl,_,_,rfl,rfl,_,_,rfl,rfl,_,_,rfl,⟨z,_,rfl,ez,hV _ _⟩,rfl⟩ (q.le (eT lz))
 |@give n i f left l s e hl d=>
  intro m k t h₀ h jZ kS lb X L ll hm hk q
  refine aK (succ hk) λ k ak=>?_;obtain rfl:=ak
  have lh:=aF lb X.le
  refine wv ?_;refine fe (A:=A) (lh _ _ hp) fp (lh _ _ IZ) hC e ?_
  refine az rfl ?_;refine az rfl ?_;refine az rfl ?_;refine az rfl ?_;refine az rfl ?_;refine az rfl ?_;refine xN X (d f (.head _)) ?_;refine az rfl ?_;refine fP (by rw[ac];exact cO hl (by decide)) ?_
  refine tP X (λ u0=>rfl) (λ u0=>rfl) l [] (λ r mr=>d r (.tail _ mr)) ?_
  refine bf (l:=aB (l.map (gv s.g))) (by rw[ac,dR];exact cO hl (by decide)) λ z hz=>?_
  have aM:=X.base (o:=.list (aB (l.map (gv s.g)))) hz
  have lz:=aA (o:=.list (aB (l.map (gv s.g)))) (bn X.le hz)
  have ez:=jq (aa h₀ z (.list (aB (l.map (gv s.g))))) (X.MR hz)
  refine bT (sm rfl) ?_
  exact mU (d:=yz (gv s.g f) (l.map (gv s.g))) (λ v h=>hK v _ h) aM (by exact ai [_,_] X0 (Nm 900) 1 (Pl X0 (Ml 5 (Pl X1 (Nm 1)))) (Nm 700) rfl hm) ⟨_,rfl,_,_,rfl,rfl,_,_,rfl,rfl,_,_,rfl,⟨z,_,rfl,ez,hV _ _⟩,rfl⟩ (q.le (eT lz))
theorem J2(h0:x0<=x1)(h1:¬(x0=x1)):(x0+(1:Nat))<=x1:=Nat.lt_of_le_of_ne h0 h1
theorem J3(h0:(((x0+(1:Nat)):Nat):Int)<=x1):((x0:Nat):Int)<=x1:=Int.le_trans (Int.ofNat_le.mpr (Nat.le_succ _)) h0
theorem J4(h0:(((x0+(1:Nat)):Nat):Int)<=((x0:Nat):Int)):False:=Nat.not_succ_le_self _ (Int.ofNat_le.mp h0)
noncomputable def DP:Nat->Nat->List (Int×V)
 |_,0=>[]
 |a,n+1=>((a:Int),.int a)::DP (a+1) n
noncomputable def Fc:Nat->Nat->List V
 |_,0=>[]
 |a,n+1=> .tup [.int a,.int a]::Fc (a+1) n
theorem oq:∀(a n:Nat),(Fc a n).length=n
 |_,0=>rfl
 |a,n+1=>congrArg (·+1) (oq (a+1) n)
theorem tB:∀(a n:Nat),c9 (Fc a n)=some (DP a n)
 |_,0=>rfl
 |a,n+1=>by show(c9 (Fc (a+1) n)).map _=_;rw[tB (a+1) n];rfl
theorem tC:∀(a n:Nat),a<=r->r<a+n->aE (DP a n) (r:Int)=some (.int (r:Int))
 |a,0,h1,h2=>absurd h1 (Nat.not_le_of_lt h2)
 |a,n+1,h1,h2=>by
  dsimp only[aE,DP]
  rw[List.find?_cons]
  by_cases e:a=r
  ·rw[dE (congrArg (λ n:Nat=>(n:Int)) e),e];rfl
  ·rw[eY λ x=>e (mC x)]
   exact tC (a+1) n (by exact J2 h1 e) (by exact ai [_,_,_] (Pl X0 (Nm 1)) (Pl (Pl X1 (Nm 1)) X2) 1 (Pl X0 (Nm 1)) (Pl X1 (Pl X2 (Nm 1))) rfl h2)
theorem Gx:∀(a n:Nat),k∈(DP a n).map (·.1)->(a:Int)<=k
 |a,n+1,h=>by
  rcases ci h with rfl|h
  ·exact Int.le_refl _
  ·have:=Gx (a+1) n h;exact J3 this
theorem qF:∀(a n:Nat),((DP a n).map (·.1)).Nodup
 |_,0=> .nil
 |a,n+1=>List.nodup_cons.mpr ⟨λ h=>by have:((a+1:Nat):Int)<=(a:Int):=Gx (a+1) n h;exact J4 this,qF (a+1) n⟩
theorem Dc{K:List V->H->Prop}(fs:∀v,(fr.set sl (some v))[sl]?=some (some v)):∀(n a:Nat) (acc:List V),K (acc++Fc a n) h->
  dY sl (kJ C lq) (wE C (.tup (.cons (.var sl) (.cons (.var sl) .nil)))) (λ u0=>True) fr (dH a n) acc K h:=by
 intro xR
 induction xR with
 |zero=>
  intro a acc q
  exact xZ (by have q:K (acc++[]) h:=q;rw[eE] at q;exact q)
 |succ n aU=>
  intro a acc q
  refine qe ?_;refine wn (fs _) ?_;refine wn (fs _) ?_;refine bT (sm rfl) ?_
  exact aU (a+1) (acc++[.tup [.int a,.int a]]) (by rw[d6];exact q)
theorem Eu{K:Out->Fr->H->Prop}:
  ∀(n p:Nat) (s:RS) (m:Nat) (z:Option V) (h:H),eR h₀ A s.N s.g s.T m h->m+2*n<=800->
  (∀z h',eR h₀ A (gE p (List.range' p n) s).N (gE p (List.range' p n) s).g (gE p (List.range' p n) s).T (m+2*n) h'->K .next [some (.ref A.nm),s1,s2,s3,some (.ref A.hd),some (.ref A.td),s6,s7,z,s9,jZ,kS,uE,wx,xO] h')->
  cw [8] (wB (ah prog (n0+1)) pL) (λ u0=>True) (dH p n) [some (.ref A.nm),s1,s2,s3,some (.ref A.hd),some (.ref A.td),s6,s7,z,s9,jZ,kS,uE,wx,xO] K h:=by
 intro xR
 induction xR with
 |zero=>
  intro p s m z h X _ q
  exact Oz (q z h X)
 |succ n aU=>
  intro p s m z h X hm q
  refine wv ?_;refine bT (sm rfl) ?_;refine sW (k:=[.s .l9,.i p]) X (by exact ai [_,_] X0 (Nm 900) 1 (Pl X0 (Ml 2 (Pl X1 (Nm 1)))) (Nm 800) rfl hm) rfl λ bB aO=>?_;refine wt aO (by exact ai [_,_] (Pl X0 (Nm 1)) (Nm 900) 1 (Pl X0 (Ml 2 (Pl X1 (Nm 1)))) (Nm 800) rfl hm) λ cN aM=>?_
  exact aU (p+1) ⟨dv s.N [.s .l9,.i p],aV s.g p (pos [.s .l9,.i p] s.N),s.T⟩ (m+2) (some (.int p)) cN aM (by exact ai [_,_] (Pl (Pl X0 (Nm 2)) (Ml 2 X1)) (Nm 800) 1 (Pl X0 (Ml 2 (Pl X1 (Nm 1)))) (Nm 800) rfl hm) λ z h' bG=>q z h' (bG.mono (by exact aL [_,_] (Pl (Pl X0 (Nm 2)) (Ml 2 X1)) (Pl X0 (Ml 2 (Pl X1 (Nm 1)))) rfl))
theorem xF{n0 n nm pr ia wa E R:Nat}{lab:Nat->Int}{Q:V->H->Prop}(lb:le hb h)(hp:hb pr=some (.inst .dB fs))(fp:eM fs .bv=some (.ref ia))(fr:eM fs .cX=some (.int R))(IZ:hb ia=some (.list (C.map (dn.v lab))))(hC:C.length<=1000)(hR:R<=1000)(hE:E<=2)(hn:h nm=some (.b9 (CO N)))(nb:hb nm=none)(nl:N.length<=100)(hw:hb wa=some (.list (left.map V.int)))(ll:left.length<=10)
  (w:Run C lab R n 0 left (gE 0 (List.range' 0 E) (.zero N)) N' T)(nn:n<=60)(q:∀c fO ws h',le hb fO->fO nm=none->le fO h'->fO c=some (.list ws)->ny fO T ws->h' nm=some (.b9 (CO N'))->Q (.ref c) h'):ah prog (n0+3) .wO [.ref nm,.ref pr,.int E,.ref wa] Q h:=by
 have ws:(left.map V.int).length<aZ:=by rw[dR];exact cO ll (by decide)
 refine bJ rfl ?_;refine cR λ hd h1=>?_;refine bf (sm rfl) λ td h2=>?_
 have cq:=aX (o:=.list []) (aX (o:=.ao []) lb h1) h2
 refine sR (cq _ _ hw) ws λ lf h3=>?_;refine bT (sm rfl) ?_;refine F3 rfl ?_;refine fE ?_
 have O5:=aD h2
 have O6:=aD h3
 have Av:=aD O6.2
 have n1:=aj hn h1
 have n2:=aj hn O5.2
 have n3:=aj hn Av.2
 have b1:=bn lb h1
 have b2:=bn lb O5.2
 have b3:=bn lb Av.2
 have X:eR (aC hb lf (.list (left.map V.int))) ⟨nm,hd,td,lf⟩ N (λ u0=>none) [] N.length (aC (aC (aC h hd (.ao [])) td (.list [])) lf (.list (left.map V.int))):=
  ⟨eS cq,(bu n3).trans nb,(bu Av.1.symm).trans b1,(bu O6.1.symm).trans b2,ax (ax (ax hn h1) h2) h3,⟨[],ax (ax (aa ..) h2) h3,.nil,dz _⟩,⟨[],ax (aa ..) h3,rfl⟩,bE _,dz _,⟨_,aa ..⟩⟩
 refine fT (n:=E) (cO hE (by decide)) ?_
 refine Eu (n0:=n0+1) (A:=⟨nm,hd,td,lf⟩) E 0 (.zero N) N.length none _ X (by exact aS [_,_] (Pl X0 (Ml 2 X1)) (Nm 800) 2 X1 (Nm 2) 1 X0 (Nm 100) rfl hE nl) λ z h' aO=>?_
 have lu:=aA (o:=.list (left.map V.int)) b3
 refine fE ?_;refine ay (aO.le _ _ (lu _ _ hp)) fr ?_;refine fT (n:=R) (cO hR (by decide)) ?_
 refine Dc (λ u0=>rfl) R 0 [] ?_
 have pl:(Fc 0 R).length<aZ:=by rw[oq];exact cO hR (by decide)
 refine bf (l:=Fc 0 R) pl λ y hy=>?_;refine LO (aa ..) pl (tB 0 R) (qF 0 R) λ of ho=>?_;refine fE ?_
 have Sp:=aD ho
 have aM:=(aO.grow (aA (o:=.list (Fc 0 R)) hy)).base (o:=.ao (DP 0 R)) ho
 refine fT (n:=60) (by decide) ?_
 have o1:=bn aO.le Sp.2
 have Xi:lf≠of:=aj (aa ..) o1
 have Xj:=bn lu o1
 have qj:=aA (o:=.ao (DP 0 R)) Xj
 refine Hu (A:=⟨nm,hd,td,lf⟩) (hb:=aC hb of (.ao (DP 0 R))) (qj _ _ hp) fp (qj _ _ IZ) hC (aa ..) (λ r hr=>tC 0 R (dz _) (by exact ai [_,_] (Pl X0 (Nm 1)) (Pl (Nm 0) X1) 1 (Pl X0 (Nm 1)) X1 rfl hr)) ((bu Xi).trans b3) (λ v fr h z=>z) w (eS lu) aM (ax (aa ..) o1) ll (by exact fH [_,_,_] (Pl (Pl X0 (Ml 2 X1)) (Ml 5 X2)) (Nm 700) 2 X1 (Nm 2) 1 X0 (Nm 100) 5 X2 (Nm 60) rfl hE nl nn) nn λ c fO ws h' a1 a2 a3 a4 a5 a6=>?_
 exact q c fO ws h' (aF (Db b3) (aF (eT (aF lu (aA o1))) a1)) a2 a3 a4 a5 a6
theorem lU(N:List gT)(k:gT):N<+:dv N k:=by
 unfold dv;split
 ·exact List.prefix_refl _
 ·exact List.prefix_append _ _
theorem mN(h:dv N k<+:N'):dv N' k=N'/\pos k N'=pos k N:=by
 unfold dv at h
 by_cases m:k∈N
 ·rw[if_pos m] at h
  refine aK h λ M ak=>?_;obtain rfl:=ak
  exact⟨if_pos (kU _ m),C' m⟩
 ·rw[if_neg m] at h
  refine aK h λ M ak=>?_;obtain rfl:=ak
  rw[d6]
  exact⟨if_pos (mA _ (.head _)),(wU m).1.trans (wU (M:=[]) m).2.symm⟩
theorem J5(o:Op)(s:RS):s.N<+:(qf o s).N:=by
 cases o with
 |define k v=>exact List.prefix_refl _
 |fix a b u v=>exact(lU ..).trans (lU ..)
 |_=>exact lU ..
theorem lV:∀(os:List Op) (s:RS),s.N<+:(bR os s).N
 |[],_=>List.prefix_refl _
 |o::os,s=>(J5 o s).trans (lV os (qf o s))
theorem Walk.pre(w:Walk U n i left s N T):s.N<+:N:=by
 induction w with
 |goto e he w ih=>exact(lV ..).trans ih
 |br e he w ih=>exact(lV ..).trans ih
 |_=>exact lV ..
section
variable {P : Nat -> Nat}
noncomputable def AE(P:Nat->Nat)(e:Nat)(g g':Rg):Prop:=∀r,e.testBit r=true->∃v,g r=some v/\g' (P r)=some v
theorem AE.gv{e:Nat}{g g':Rg}(h:AE P e g g'){r:Nat}(hr:e.testBit r=true):gv g' (P r)=gv g r:=by
 refine aG (h r hr) λ v a b=>?_
 unfold Mine.gv;rw[a,b]
noncomputable def Sq(P:Nat->Nat)(o:Op)(iM:Nat):Prop:=∀w∈o.writes,∀r,(eK o iM).testBit r=true->r≠w->P r≠P w
theorem ky(h:a.testBit r=true):(eK o a).testBit r=true:=by
 unfold eK;rw[bh,bh,h];rfl
theorem Ev(h:r∈o.writes):(eK o a).testBit r=true:=by
 unfold eK;rw[bh,bh,aJ,dE h,Bool.or_true];rfl
theorem wW(h:AE P (bP o e) g g')(ap:Sq P o e)(hw:o.writes=[t]):AE P e (aV g t v) (aV g' (P t) v):=λ r hr=>by
 by_cases x:r=t
 ·subst x;exact⟨v,if_pos rfl,if_pos rfl⟩
 ·obtain⟨w,a,b⟩:=h r (bU.mpr (.inl ⟨hr,by rw[hw];exact λ m=>x (cP m)⟩))
  exact⟨w,(bq x).trans a,(bq (ap t (by rw[hw];exact .head _) r (ky hr) x)).trans b⟩
theorem NV(ok:o.ok)(h:AE P (bP o e) s.g g')(ap:Sq P o e)(pre:(qf o s).N<+:N'):∃dU,qf (o.map P) ⟨N',g',s.T⟩=⟨N',dU,(qf o s).T⟩/\AE P e (qf o s).g dU/\∀r∈(o.map P).reads,∃v,g' r=some v:=by
 have rd:∀r∈o.reads,gv g' (P r)=gv s.g r:=λ r m=>h.gv (bU.mpr (.inr m))
 have rx:∀r∈o.reads,∃v,g' (P r)=some v:=λ r m=>by refine aG (h r (bU.mpr (.inr m))) λ v u0 b=>?_;exact⟨v,b⟩
 cases o with
 |const t k=>
  have t':=mN pre
  refine⟨aV g' (P t) (pos _ s.N),?_,wW h ap rfl,λ u0 m=>nomatch m⟩
  delta qf Op.map
  dsimp only
  simp only[t'.1,t'.2]
 |free t k=>
  have t':=mN pre
  refine⟨aV g' (P t) (pos _ s.N),?_,wW h ap rfl,λ u0 m=>nomatch m⟩
  delta qf Op.map
  dsimp only
  simp only[t'.1,t'.2]
 |define k v=>
  refine⟨g',?_,λ r hr=>h r (bU.mpr (.inl ⟨hr,nofun⟩)),λ r m=>by cases cP m;exact rx v (.head _)⟩
  show RS.mk N' g' (s.T++[.tup [.str .define,gD k,gD (gv g' (P v))]])=_
  rw[rd v (.head _)];rfl
 |prim t k a b|closure t k a b=>
  have t':=mN pre
  refine⟨aV g' (P t) (pos _ s.N),?_,wW h ap rfl,λ r m=>?_⟩
  ·delta qf Op.map
   dsimp only
   simp only[rd a (.head _),rd b (.tail _ (.head _)),t'.1,t'.2]
  ·rcases ci m with rfl|m
   ·exact rx a (.head _)
   ·cases cP m;exact rx b (.tail _ (.head _))
 |fix a b u v=>
  refine RW ok λ ab ua ub va vb=>?_
  have t2:=mN pre
  have t1:=mN ((lU ..).trans pre)
  have ar:∀r∈[u,v],(eK (.fix a b u v) e).testBit r=true:=λ r m=>by
   unfold eK
   rw[bh,show(Op.fix a b u v).yq=true from rfl,if_pos rfl,aJ,dE (show r∈(Op.fix a b u v).reads from m),Bool.or_true]
  have pu:=ap a (.head _) u (ar u (.head _)) ua
  have Xk:=ap b (.tail _ (.head _)) u (ar u (.head _)) ub
  have pv:=ap a (.head _) v (ar v (.tail _ (.head _))) va
  have Xl:=ap b (.tail _ (.head _)) v (ar v (.tail _ (.head _))) vb
  have Xm:=ap b (.tail _ (.head _)) a (Ev (.head _)) ab
  refine⟨aV (aV g' (P a) (pos [.s .made,.i s.T.length,.i 0] s.N)) (P b) (pos [.s .made,.i s.T.length,.i 1] (dv s.N [.s .made,.i s.T.length,.i 0])),?_,λ r hr=>?_,λ r m=>?_⟩
  ·delta qf Op.map
   dsimp only
   simp only[t1.1,t2.1,t1.2,t2.2]
   have e1:∀{g:Rg} {x y p q:Nat},gv (aV (aV g x p) y q) y=q:=λ{g x y p q}=>by dsimp only[gv,aV];rw[if_pos rfl];rfl
   have e2:∀{g:Rg} {x y p q:Nat},x≠y->gv (aV (aV g x p) y q) x=p:=λ{g x y p q} n=>by dsimp only[gv,aV];rw[if_neg n,if_pos rfl];rfl
   have e3:∀{g:Rg} {x y z p q:Nat},z≠x->z≠y->gv (aV (aV g x p) y q) z=gv g z:=λ{g x y z p q} n n'=>by dsimp only[gv,aV];rw[if_neg n',if_neg n]
   simp only[e1,e1,e2 Xm,e2 ab,e3 pu Xk,e3 pv Xl,e3 ua ub,e3 va vb,rd u (.head _),rd v (.tail _ (.head _))]
  ·show∃w,aV (aV s.g a _) b _ r=some w/\_
   by_cases x:r=b
   ·subst x;exact⟨_,if_pos rfl,if_pos rfl⟩
   ·have px:=ap b (.tail _ (.head _)) r (ky hr) x
    rw[bq x,bq px]
    by_cases y:r=a
    ·subst y;exact⟨_,if_pos rfl,if_pos rfl⟩
    ·rw[bq y,bq (ap a (.head _) r (ky hr) y)]
     exact h r (bU.mpr (.inl ⟨hr,λ m=>by
      rcases ci m with m|m
      ·exact y m
      ·exact x (cP m)⟩))
  ·rcases ci m with rfl|m
   ·exact rx u (.head _)
   ·cases cP m;exact rx v (.tail _ (.head _))
end
theorem jX(h0:(x0+(1:Nat))<=x1):x1=((x1-(1:Nat))+(1:Nat)):=dP (ai [x1,(x1-1),x0] X0 (Pl X1 (Nm 1)) 1 X0 (Pl X1 (Nm 1)) rfl (Az _ _)) (ai [(x1-1),x1,x0] (Pl X0 (Nm 1)) X1 1 (Pl X0 (Nm 1)) X1 rfl (AA (ai [x1,x0] (Nm 1) X0 1 (Pl X1 (Nm 1)) X0 rfl h0)))
noncomputable def DQ(C:List dn)(i:Nat)(X:List dn):Prop:=∀(j:Nat) (x:dn),X[j]?=some x->C[i+j]?=some x
theorem DQ.head(h:DQ C i (x::X)):C[i]?=some x/\DQ C (i+1) X:=
 ⟨h 0 x rfl,λ j y e=>by rw[Nat.add_assoc,Nat.add_comm 1 j];exact h (j+1) y e⟩
theorem DQ.app:∀{X Y:List dn} {C:List dn} {i:Nat},DQ C i (X++Y)->DQ C i X/\DQ C (i+X.length) Y:=by
 intro xR
 induction xR with
 |nil=>
  intro _ _ _ h
  exact⟨(λ u0 u0 e=>nomatch e),h⟩
 |cons x X aU=>
  intro Y C i h
  have a:=DQ.head h
  have b:=aU a.2
  refine⟨λ j y e=>?_,?_⟩
  ·cases j with
   |zero=>obtain rfl:=c8 e;exact a.1
   |succ j=>have:=b.1 j y e;rw[show i+(j+1)=i+1+j by exact dP (aL [_,_] (Pl X0 (Pl X1 (Nm 1))) (Pl (Pl X0 (Nm 1)) X1) rfl) (aL [_,_] (Pl (Pl X0 (Nm 1)) X1) (Pl X0 (Pl X1 (Nm 1))) rfl)];exact this
  ·simp only[List.length_cons,show i+(X.length+1)=i+1+X.length by exact dP (aL [_,_] (Pl X0 (Pl X1 (Nm 1))) (Pl (Pl X0 (Nm 1)) X1) rfl) (aL [_,_] (Pl (Pl X0 (Nm 1)) X1) (Pl X0 (Pl X1 (Nm 1))) rfl)];exact b.2
theorem Run.add{lab:Nat->Int}(w:Run C lab R n i left s N T):∀{m:Nat},n<=m->Run C lab R m i left s N T:=by
 induction w with
 |op e rg d w ih=>intro m h;obtain⟨m,rfl⟩:∃k,m=k+1:=⟨m-1,by exact jX h⟩;exact .op e rg d (ih (by exact ai [_,_] X0 X1 1 (Pl X0 (Nm 1)) (Pl X1 (Nm 1)) rfl h))
 |mv e d w ih=>intro m h;obtain⟨m,rfl⟩:∃k,m=k+1:=⟨m-1,by exact jX h⟩;exact .mv e d (ih (by exact ai [_,_] X0 X1 1 (Pl X0 (Nm 1)) (Pl X1 (Nm 1)) rfl h))
 |d7 e l w ih=>intro m h;obtain⟨m,rfl⟩:∃k,m=k+1:=⟨m-1,by exact jX h⟩;exact .d7 e l (ih (by exact ai [_,_] X0 X1 1 (Pl X0 (Nm 1)) (Pl X1 (Nm 1)) rfl h))
 |stop e d=>intro m h;obtain⟨m,rfl⟩:∃k,m=k+1:=⟨m-1,by exact jX h⟩;exact .stop e d
 |br e d l w ih=>intro m h;obtain⟨m,rfl⟩:∃k,m=k+1:=⟨m-1,by exact jX h⟩;exact .br e d l (ih (by exact ai [_,_] X0 X1 1 (Pl X0 (Nm 1)) (Pl X1 (Nm 1)) rfl h))
 |call e l d=>intro m h;obtain⟨m,rfl⟩:∃k,m=k+1:=⟨m-1,by exact jX h⟩;exact .call e l d
 |give e l d=>intro m h;obtain⟨m,rfl⟩:∃k,m=k+1:=⟨m-1,by exact jX h⟩;exact .give e l d
section
variable {C : List dn} {lab : Nat -> Int} {R : Nat} {P : Nat -> Nat} {N' : List gT}
theorem J6:∀(os:List Op) (s:RS) (g':Rg) (i:Nat),(∀o∈os,o.ok)->(∀o∈os,∀r∈o.e9,P r<R)->(∀p∈os.zip (jO os e),Sq P p.1 p.2)->AE P (cK os e) s.g g'->(bR os s).N<+:N'->DQ C i (os.map λ o=> .op (o.map P))->
  ∃dU,AE P e (bR os s).g dU/\(Run C lab R n (i+os.length) left ⟨N',dU,(bR os s).T⟩ N T->Run C lab R (n+os.length) i left ⟨N',g',s.T⟩ N T):=by
 intro xR
 induction xR with
 |nil=>
  intro s g' i _ _ _ h _ _
  exact⟨g',h,id⟩
 |cons o os aU=>
  intro s g' i ok rg ap h pre hc
  have hd:=hc.head
  refine ik (NV (N':=N') (ok o (.head _)) h (ap (o,cK os e) (.head _)) ((lV os (qf o s)).trans pre)) λ dU e1 bB rd=>?_
  refine aG (aU (qf o s) dU (i+1) (λ o m=>ok o (.tail _ m)) (λ o m=>rg o (.tail _ m)) (λ p m=>ap p (.tail _ m)) bB pre hd.2) λ P2 cN w=>?_
  refine⟨P2,cN,λ z=>?_⟩
  refine .op hd.1 (λ r m=>?_) rd ?_
  ·have:(o.map P).e9=o.e9.map P:=by cases o<;>rfl
   rw[this] at m
   refine aG (iE m) λ q hq ak=>?_;obtain rfl:=ak
   exact rg o (.head _) q hq
  ·rw[e1]
   exact w (by rw[show i+1+os.length=i+(os.length+1) by exact dP (aL [_,_] (Pl (Pl X0 (Nm 1)) X1) (Pl X0 (Pl X1 (Nm 1))) rfl) (aL [_,_] (Pl X0 (Pl X1 (Nm 1))) (Pl (Pl X0 (Nm 1)) X1) rfl)];exact z)
noncomputable def AF:Rg->List (Nat×Nat)->Rg
 |g,[]=>g
 |g,p::E=>AF (aV g p.1 (gv g p.2)) E
noncomputable def DG:Rg->List (Nat×Nat)->Prop
 |_,[]=>True
 |g,p::E=>(∃v,g p.2=some v)/\DG (aV g p.1 (gv g p.2)) E
theorem J7:∀(E:List (Nat×Nat)) (g':Rg) (i:Nat),DG g' E->DQ C i (E.map λ p=> .mv p.1 p.2)->Run C lab R n (i+E.length) left ⟨N',AF g' E,T0⟩ N T->Run C lab R (n+E.length) i left ⟨N',g',T0⟩ N T:=by
 intro xR
 induction xR with
 |nil=>
  intro _ _ _ _ w
  exact w
 |cons p E aU=>
  intro g' i ok hc w
  exact .mv hc.head.1 ok.1 (aU _ (i+1) ok.2 hc.head.2 (by rw[show i+1+E.length=i+(E.length+1) by exact dP (aL [_,_] (Pl (Pl X0 (Nm 1)) X1) (Pl X0 (Pl X1 (Nm 1))) rfl) (aL [_,_] (Pl X0 (Pl X1 (Nm 1))) (Pl (Pl X0 (Nm 1)) X1) rfl)];exact w))
theorem NW:∀(E:List (Nat×Nat)),E.length<=2->(E.map (·.1)).Nodup->(∀p∈E,p.1≠o/\p.2≠o/\∃v,g p.2=some v)->
  DG g (nq E o)/\(∀p∈E,AF g (nq E o) p.1=g p.2)/\∀x,x≠o->x∉E.map (·.1)->AF g (nq E o) x=g x
 |[],_,_,_=>⟨trivial,(λ u0 m=>nomatch m),λ u0 u0 u0=>rfl⟩
 |[(t,s)],_,_,h=>by
  obtain⟨a,b,v,e⟩:=h _ (.head _)
  unfold nq
  by_cases x:t=s
  ·subst x
   rw[qg (by simp)]
   exact⟨trivial,λ p m=>by cases cP m;rfl,λ u0 u0 u0=>rfl⟩
  ·rw[rE (by simpa using x)]
   refine⟨⟨⟨v,e⟩,trivial⟩,λ p m=>?_,λ y u0 hy=>bq λ z=>hy (by simp only[z];exact .head _)⟩
   cases cP m
   show aV g t (gv g s) t=g s
   dsimp only[aV,gv];rw[if_pos rfl,e];rfl
 |[(t,s),(t',s')],_,nd,h=>by
  obtain⟨a,b,v,e⟩:=h _ (.head _)
  obtain⟨a',b',v',e'⟩:=h _ (.tail _ (.head _))
  have tt:t≠t':=λ z=>(kY nd).1 (by simp only[z];exact .head _)
  have gs:gv g s=v:=by unfold gv;rw[e];rfl
  have OE:gv g s'=v':=by unfold gv;rw[e'];rfl
  have AC:∀{M:List (Nat×Nat)},DG g M->AF g M t=g s->AF g M t'=g s'->(∀x,x≠o->x≠t->x≠t'->AF g M x=g x)->DG g M/\(∀p∈[(t,s),(t',s')],AF g M p.1=g p.2)/\∀x,x≠o->x∉[(t,s),(t',s')].map (·.1)->AF g M x=g x:=λ a b c d=>
   ⟨a,λ p m=>by
    rcases ci m with rfl|m
    ·exact b
    ·cases cP m;exact c,λ x n m=>d x n (λ z=>m (by rw[z];exact .head _)) λ z=>m (by rw[z];exact .tail _ (.head _))⟩
  by_cases x:t=s
  ·subst x
   by_cases y:t'=s'
   ·subst y
    rw[show nq [(t,t),(t',t')] o=[] by unfold nq;rw[qg (by simp),qg (by simp)];rfl]
    exact AC trivial rfl rfl λ u0 u0 u0 u0=>rfl
   ·rw[show nq [(t,t),(t',s')] o=[(t',s')] by unfold nq;rw[qg (by simp),rE (by simpa using y)];rfl]
    exact AC ⟨⟨v',e'⟩,trivial⟩ (bq tt) ((if_pos rfl).trans (by simp only[OE,e'])) λ x u0 u0 n=>bq n
  ·by_cases y:t'=s'
   ·subst y
    rw[show nq [(t,s),(t',t')] o=[(t,s)] by unfold nq;rw[rE (by simpa using x),qg (by simp)];rfl]
    exact AC ⟨⟨v,e⟩,trivial⟩ ((if_pos rfl).trans (by simp only[gs,e])) (bq tt.symm) λ x u0 n u0=>bq n
   ·rw[show nq [(t,s),(t',s')] o=if s'≠t then[(t,s),(t',s')] else if s≠t' then[(t',s'),(t,s)] else[(o,t),(t,s),(t',o)] by unfold nq;rw[rE (by simpa using x),rE (by simpa using y)];rfl]
    by_cases z:s'=t
    ·by_cases w:s=t'
     ·subst z;subst w
      have m1:aV g o v' s=some v:=(bq b).trans e
      have m2:aV (aV g o v') s' v o=some v':=(bq a.symm).trans (if_pos rfl)
      have E:AF g [(o,s'),(s',s),(s,o)]=aV (aV (aV g o v') s' v) s v':=by
       show aV (aV (aV g o (gv g s')) s' (gv (aV g o (gv g s')) s)) s (gv (aV (aV g o (gv g s')) s' (gv (aV g o (gv g s')) s)) o)=_
       rw[OE,show gv (aV g o v') s=v by unfold gv;rw[m1];rfl,show gv (aV (aV g o v') s' v) o=v' by unfold gv;rw[m2];rfl]
      rw[if_neg λ n=>n rfl,if_neg λ n=>n rfl]
      refine AC (M:=[(o,s'),(s',s),(s,o)]) ⟨⟨v',e'⟩,⟨v,?_⟩,⟨v',?_⟩,trivial⟩ (by rw[E];exact(bq tt).trans ((if_pos rfl).trans e.symm)) (by rw[E];exact(if_pos rfl).trans e'.symm) λ x n1 n2 n3=>by rw[E];exact(bq n3).trans ((bq n2).trans (bq n1))
      ·rw[OE];exact m1
      ·show aV (aV g o (gv g s')) s' (gv (aV g o (gv g s')) s) o=some v'
       rw[OE];exact(bq a.symm).trans (if_pos rfl)
     ·subst z
      have m1:aV g t' v' s=some v:=(bq w).trans e
      have E:AF g [(t',s'),(s',s)]=aV (aV g t' v') s' v:=by
       show aV (aV g t' (gv g s')) s' (gv (aV g t' (gv g s')) s)=_
       rw[OE,show gv (aV g t' v') s=v by unfold gv;rw[m1];rfl]
      rw[if_neg λ n=>n rfl,if_pos w]
      refine AC (M:=[(t',s'),(s',s)]) ⟨⟨v',e'⟩,⟨v,?_⟩,trivial⟩ (by rw[E];exact(if_pos rfl).trans e.symm) (by rw[E];exact(bq tt.symm).trans ((if_pos rfl).trans e'.symm)) λ x n1 n2 n3=>by rw[E];exact(bq n2).trans (bq n3)
      rw[OE];exact m1
    ·have m1:aV g t v s'=some v':=(bq z).trans e'
     have E:AF g [(t,s),(t',s')]=aV (aV g t v) t' v':=by
      show aV (aV g t (gv g s)) t' (gv (aV g t (gv g s)) s')=_
      rw[gs,show gv (aV g t v) s'=v' by unfold gv;rw[m1];rfl]
     rw[if_pos z]
     refine AC (M:=[(t,s),(t',s')]) ⟨⟨v,e⟩,⟨v',?_⟩,trivial⟩ (by rw[E];exact(bq tt).trans ((if_pos rfl).trans e.symm)) (by rw[E];exact(if_pos rfl).trans e'.symm) λ x n1 n2 n3=>by rw[E];exact(bq n3).trans (bq n2)
     rw[gs];exact m1
 |_::_::_::_,h,_,_=>by simp at h
end
theorem J8{x0 x1 x2 x3:Nat}(h0:(x0+x1)<=x2):(((x2-x0)+x3)-x1)=((x2-(x0+x1))+x3):=dP (ai [(((x2-x0)+x3)-x1),(x2-(x0+x1)),x3,x0,x1,x2,(x2-x0)] X0 (Pl X1 X2) 1 (Pl (Pl (Pl X0 X4) X5) (Pl X6 X3)) (Pl (Pl (Pl X6 X2) (Pl X1 (Pl X3 X4))) X5) rfl (bQ (bQ (AA (ai [x1,(x2-x0),x3,x0,x2] X0 (Pl X1 X2) 1 (Pl (Pl X3 X0) X4) (Pl X4 (Pl X1 X3)) rfl (bQ h0 (Az _ _)))) (Az _ _)) (AA (ai [x0,x2,x1] X0 X1 1 (Pl X0 X2) X1 rfl h0)))) (ai [(x2-(x0+x1)),x3,(((x2-x0)+x3)-x1),x0,x1,x2,(x2-x0)] (Pl X0 X1) X2 1 (Pl (Pl (Pl X0 (Pl X3 X4)) (Pl X6 X1)) X5) (Pl (Pl X5 (Pl X2 X4)) (Pl X6 X3)) rfl (bQ (bQ (AA (ai [x0,x1,x2] (Pl X0 X1) X2 1 (Pl X0 X1) X2 rfl h0)) (Az _ _)) (Az _ _)))
theorem pO:∀{ps l:List Nat},ps.length=l.length->r∈ps->∃s,(r,s)∈ps.zip l
 |p::ps,s::l,e,h=>by
  rcases ci h with rfl|h
  ·exact⟨s,.head _⟩
  ·refine aK (pO (ps:=ps) (l:=l) (Nat.succ.inj e) h) λ t ht=>?_;exact⟨t,.tail _ ht⟩
theorem yQ{v:Nat->Nat}:∀{ps l:List Nat} {g:Rg},ps.Nodup->(r,s)∈ps.zip l->nr g ps (l.map v) r=some (v s)
 |p::ps,t::l,g,nd,h=>by
  rcases ci h with h|h
  ·cases h;exact(lT (ps:=ps) (vs:=l.map v) (kY nd).1).trans (if_pos rfl)
  ·exact yQ (ps:=ps) (l:=l) (g:=aV g p (v t)) (kY nd).2 h
theorem vJ{P:Nat->Nat}:∀{ps l:List Nat},(r,s)∈ps.zip l->(P r,P s)∈bL P ps l
 |p::ps,t::l,h=>by
  rcases ci h with h|h
  ·cases h;exact .head _
  ·exact .tail _ (vJ h)
theorem yR{P:Nat->Nat}:∀{ps l:List Nat},q∈bL P ps l->∃r s,(r,s)∈ps.zip l/\q=(P r,P s)
 |p::ps,t::l,h=>by
  rcases ci h with h|h
  ·exact⟨p,t,.head _,h⟩
  ·refine fh (yR h) λ r s a b=>?_;exact⟨r,s,.tail _ a,b⟩
theorem tQ{P:Nat->Nat}:∀{ps l:List Nat},ps.length=l.length->(bL P ps l).map (·.1)=ps.map P
 |[],[],_=>rfl
 |p::ps,t::l,e=>congrArg _ (tQ (Nat.succ.inj e))
theorem vK{P:Nat->Nat}:∀{ps:List Nat},ps.Nodup->(∀r∈ps,∀s∈ps,s≠r->P s≠P r)->(ps.map P).Nodup:=by
 intro xR
 induction xR with
 |nil=>
  intro _ _
  exact .nil
 |cons p ps aU=>
  intro nd h
  exact List.nodup_cons.mpr ⟨λ m=>by
    refine aG (iE m) λ s hs e=>?_
    exact h p (.head _) s (.tail _ hs) (λ x=>(kY nd).1 (by simp only[←x];exact hs)) e,aU (kY nd).2 λ r hr s hs=>h r (.tail _ hr) s (.tail _ hs)⟩
theorem Hv{P:Nat->Nat}(h:AE P (b7 U B (.goto j l)) g g')(l2:l.length<=2)(hl:(U.par j).length=l.length)(pn:(U.par j).Nodup)
  (par:∀r∈U.par j,∀s,(io (b8 (U.par j)) ((B[j]?).getD 0)).testBit s=true->s≠r->P s≠P r)(lt:∀r∈U.par j,P r<cnt)(ls:∀r∈l,P r<cnt)(lb:∀r,((B[j]?).getD 0).testBit r=true->P r<cnt):
  DG g' (nq (bL P (U.par j) l) cnt)/\AE P ((B[j]?).getD 0) (nr g (U.par j) (l.map (gv g))) (AF g' (nq (bL P (U.par j) l) cnt)):=by
 have VY:∀s∈l,∃v,g s=some v/\g' (P s)=some v:=λ s m=>h s (aI.mpr (.inl m))
 have keys:(bL P (U.par j) l).map (·.1)=(U.par j).map P:=tQ hl
 have len:(bL P (U.par j) l).length<=2:=by rw[←dR (f:=(·.1)),keys,dR,hl];exact l2
 have pm:∀{r s},s∈U.par j->r∈U.par j->s≠r->P s≠P r:=λ{r s} hs hr n=>par r hr s (by simp only[bh,aJ,dE hs];rfl) n
 have M:=NW (g:=g') (o:=cnt) (bL P (U.par j) l) len (by rw[keys];exact vK pn λ r hr s hs=>pm hs hr) λ q hq=>by
  refine fh (yR hq) λ r s m ak=>?_;obtain rfl:=ak
  have rm:=(List.of_mem_zip m).1
  have sm:=(List.of_mem_zip m).2
  refine aG (VY s sm) λ v u0 b=>?_
  exact⟨Nat.ne_of_lt (lt r rm),Nat.ne_of_lt (ls s sm),v,b⟩
 refine⟨M.1,λ r hr=>?_⟩
 by_cases m:r∈U.par j
 ·refine aK (pO hl m) λ s hs=>?_
  refine aG (VY s (List.of_mem_zip hs).2) λ v a b=>?_
  refine⟨gv g s,yQ pn hs,?_⟩
  rw[M.2.1 _ (vJ hs)]
  unfold gv;rw[a];exact b
 ·refine aG (h r (aI.mpr (.inr ⟨j,.head _,hr,m⟩))) λ v a b=>?_
  refine⟨v,(lT m).trans a,(M.2.2 _ (Nat.ne_of_lt (lb r hr)) ?_).trans b⟩
  rw[keys]
  intro x
  refine aG (iE x) λ p hp e=>?_
  exact par p hp r (by rw[bh,hr,Bool.or_true]) (λ z=>m (by simp only[z];exact hp)) e.symm
theorem tR{P:Nat->Nat}:∀{o:List Nat} {xW:Nat},(k,n)∈cH U P cnt xW o->xW<=n/\∃later,DQ (dI U P cnt o) (n-xW) (U.bcode P cnt k later)/\∀t,later=some t->(t,n+(U.bcode P cnt k later).length)∈cH U P cnt xW o
 |a::o,xW,h=>by
  unfold cH at h
  rcases ci h with h|h
  ·cases h
   refine⟨bE _,o.head?,?_,λ t e=>?_⟩
   ·rw[Nat.sub_self]
    intro j x e
    rw[Nat.zero_add]
    show(U.bcode P cnt k o.head?++dI U P cnt o)[j]?=some x
    rw[List.getElem?_append_left (fQ e).1];exact e
   ·cases o with
    |nil=>exact dD e
    |cons b o=>obtain rfl:=c8 e;exact .tail _ (.head _)
  ·obtain⟨a1,later,a2,a3⟩:=tR h
   refine⟨cV (Nat.le_add_right ..) a1,later,λ j x e=>?_,λ t e=> .tail _ (a3 t e)⟩
   have:=a2 j x e
   show(U.bcode P cnt a o.head?++dI U P cnt o)[n-xW+j]?=some x
   rw[wf (by exact aS [_,_,_,_,_] X0 (Pl X1 X2) 1 (Pl X3 X0) X4 1 X4 (Pl X1 X3) rfl a1 (Az _ _)),show n-xW+j-(U.bcode P cnt a o.head?).length=n-(xW+(U.bcode P cnt a o.head?).length)+j by exact J8 a1]
   exact this
structure Sr (U:Un) (B:List Nat) (P:Nat->Nat) (cnt:Nat):Prop where
 Xn:∀(i:Nat) (b:Block),U.blocks[i]?=some b->∀p∈b.ops.zip (jO b.ops (b7 U B b.end_)),Sq P p.1 p.2
 par:∀j,∀r∈U.par j,∀s,(io (b8 (U.par j)) ((B[j]?).getD 0)).testBit s=true->s≠r->P s≠P r
 pn:∀j,(U.par j).Nodup
 lt:∀r,cC U r->P r<cnt
 pd:∀j,∀r∈U.par j,cC U r
 ops:∀(i:Nat) (b:Block),U.blocks[i]?=some b->∀o∈b.ops,∀r∈o.e9,cC U r
 en:∀(i:Nat) (b:Block),U.blocks[i]?=some b->∀r∈b.end_.reads,cC U r
 lb:∀(j r:Nat),((B[j]?).getD 0).testBit r=true->cC U r
theorem Hw{P:Nat->Nat}(S:Sr U B P cnt)(W:WK U B)(ho:o.Nodup)(ha:∀k<U.blocks.length,k∈o)(hR:cnt<=R)(w:Walk U n i left s N T):
  ∀{g':Rg} {p:Nat},AE P ((B[i]?).getD 0) s.g g'->(i,p)∈cH U P cnt 0 o->Run (dI U P cnt o) (kD U P cnt o) R (6*n) p left ⟨N,g',s.T⟩ N T:=by
 have lab:∀{j:Nat},j<U.blocks.length->∃q,(j,q)∈cH U P cnt 0 o/\kD U P cnt o j=(q:Int):=λ{j} h=>by
  have:=ha j h
  rw[←l7 (U:=U) (P:=P) (cnt:=cnt) (o:=o) (n:=0)] at this
  refine aG (iE this) λ ak m bA=>?_;obtain⟨b,q⟩:=ak;obtain rfl:=bA
  exact⟨q,m,(Gv ho m).2⟩
 have gY:∀{i p m:Nat} {b:Block} {left:List Int} {s:RS} {T:List D} {g':Rg} {N:List gT},U.blocks[i]?=some b->(bR b.ops s).N<+:N->AE P ((B[i]?).getD 0) s.g g'->(i,p)∈cH U P cnt 0 o->
   (∀(later:Option Nat) (q:Nat) (dU:Rg),AE P (b7 U B b.end_) (bR b.ops s).g dU->DQ (dI U P cnt o) q (cL U P cnt later b.end_)->(∀t,later=some t->(t,q+(cL U P cnt later b.end_).length)∈cH U P cnt 0 o)->Run (dI U P cnt o) (kD U P cnt o) R (m+4) q left ⟨N,dU,(bR b.ops s).T⟩ N T)->
   Run (dI U P cnt o) (kD U P cnt o) R (m+6) p left ⟨N,g',s.T⟩ N T:=λ{i p m b left s T g' N} e pre h st q=>by
  obtain⟨_,later,hc,hl⟩:=tR st
  have bc:U.bcode P cnt i later=b.ops.map (λ o=> .op (o.map P))++cL U P cnt later b.end_:=by unfold Un.bcode;rw[e];rfl
  simp only[bc,Nat.sub_zero] at hc
  have hc:=hc.app
  rw[dR] at hc
  rw[W.B i b e] at h
  have ol:=W.ol i b e
  refine aG (J6 (C:=dI U P cnt o) (lab:=kD U P cnt o) (R:=R) (n:=m+4) (left:=left) (N:=N) (T:=T) b.ops s g' p (λ o mo=>((W.jK.gY i b e).ops o mo).1) (λ o mo r mr=>kI (S.lt r (S.ops i b e o mo r mr)) hR) (S.Xn i b e) h pre hc.1) λ dU bB w=>?_
  refine(w (q later (p+b.ops.length) dU bB hc.2 λ t z=>?_)).add (by exact ai [_,_] (Pl (Pl X0 (Nm 4)) X1) (Pl X0 (Nm 6)) 1 X1 (Nm 2) rfl ol)
  have:=hl t z
  rw[bc,eQ,dR,←Nat.add_assoc] at this
  exact this
 induction w with
 |@goto n i j left s b l N T e he w ih=>
  intro g' p h st
  refine gY (m:=6*n) e w.pre h st λ later q dU bB hc hl=>?_
  rw[he] at bB hc hl
  refine bV (W.go i b e j l he) λ g1 g2=>?_
  have sg:=Hv bB g1 g2 (S.pn j) (S.par j) (λ r m=>S.lt r (S.pd j r m)) (λ r m=>S.lt r (S.en i b e r (by rw[he];exact m))) λ r m=>S.lt r (S.lb j r m)
  simp only[cL] at hc
  have ml:=j8 (bL P (U.par j) l) cnt
  have hc:=hc.app
  rw[dR] at hc
  have aY:Run (dI U P cnt o) (kD U P cnt o) R (6*n+1) (q+(nq (bL P (U.par j) l) cnt).length) left ⟨N,AF dU (nq (bL P (U.par j) l) cnt),(bR b.ops s).T⟩ N T:=by
   by_cases z:later=some j
   ·have:=hl j z
    rw[cL,if_pos z,eE,dR] at this
    exact(ih sg.2 this).add (Nat.le_succ _)
   ·have hd:=hc.2
    rw[if_neg z] at hd
    refine aG (lab ((W.jK.gY i b e).to j (by rw[he];exact .head _))) λ pj m lj=>?_
    exact .d7 hd.head.1 lj (ih sg.2 m)
  exact(J7 _ _ _ sg.1 hc.1 aY).add (by exact ai [_,_] (Pl (Pl (Ml 6 X0) (Nm 1)) X1) (Pl (Ml 6 X0) (Nm 4)) 1 X1 (Nm 3) rfl ml)
 |@stop n i c t f s b e he=>
  intro g' p h st
  refine gY (m:=6*n) e (List.prefix_refl _) h st λ later q dU bB hc hl=>?_
  rw[he] at bB hc
  refine aG (bB c (aI.mpr (.inl (.head _)))) λ v a b'=>?_
  rw[←bB.gv (aI.mpr (.inl (.head _)))]
  exact .stop (s:=⟨_,dU,_⟩) hc.head.1 ⟨v,b'⟩
 |@br n i c t f x left s b N T e he w ih=>
  intro g' p h st
  refine gY (m:=6*n) e w.pre h st λ later q dU bB hc hl=>?_
  have tt:=(W.jK.gY i b e).to
  rw[he] at bB hc hl tt
  have cl:(b7 U B (.branch c t f)).testBit c=true:=aI.mpr (.inl (.head _))
  refine aG (bB c cl) λ v a b'=>?_
  refine bV (W.br i b e c t f he) λ pb pc=>?_
  refine aG (lab (tt f (.tail _ (.head _)))) λ pf mf lf=>?_
  refine .br (n:=6*n+3) hc.head.1 ⟨v,b'⟩ lf ?_
  unfold RS.say
  dsimp only
  rw[bB.gv cl]
  by_cases z:0<x
  ·rw[if_pos z] at ih⊢
   have sm:AE P ((B[t]?).getD 0) (bR b.ops s).g dU:=λ r hr=>bB r (aI.mpr (.inr ⟨t,.head _,hr,by rw[pb];exact nofun⟩))
   by_cases y:later=some t
   ·have:=hl t y
    rw[cL,if_pos y] at this
    exact(ih sm this).add (by exact aL [_] (Ml 6 X0) (Pl (Ml 6 X0) (Nm 3)) rfl)
   ·have hd:=hc.head.2
    rw[if_neg y] at hd
    refine aG (lab (tt t (.head _))) λ pt mt lt=>?_
    exact .d7 (n:=6*n+2) hd.head.1 lt ((ih sm mt).add (by exact aL [_] (Ml 6 X0) (Pl (Ml 6 X0) (Nm 2)) rfl))
  ·rw[if_neg z] at ih⊢
   exact(ih (λ r hr=>bB r (aI.mpr (.inr ⟨f,.tail _ (.head _),hr,by rw[pc];exact nofun⟩))) mf).add (by exact aL [_] (Ml 6 X0) (Pl (Ml 6 X0) (Nm 3)) rfl)
 |@call n i f k left l s b e he=>
  intro g' p h st
  refine gY (m:=6*n) e (List.prefix_refl _) h st λ later q dU bB hc hl=>?_
  have el:=(W.jK.gY i b e).kZ
  rw[he] at bB hc el
  have el:l.length+1+1<=10:=el
  have lv:∀r∈f::k::l,(b7 U B (.call f k l)).testBit r=true:=λ r m=>aI.mpr (.inl m)
  have gl:(l.map P).map (gv dU)=l.map (gv (bR b.ops s).g):=by rw[List.map_map];exact List.map_congr_left λ r m=>bB.gv (lv r (.tail _ (.tail _ m)))
  simp only[←bB.gv (lv f (.head _)),←bB.gv (lv k (.tail _ (.head _))),←gl]
  refine .call (s:=⟨_,dU,_⟩) hc.head.1 (by rw[dR];exact ai [_] X0 (Nm 10) 1 (Pl (Pl X0 (Nm 1)) (Nm 1)) (Nm 10) rfl el) λ r m=>?_
  refine aG (iE (show r∈(f::k::l).map P from m)) λ r' m' ak=>?_;obtain rfl:=ak
  refine aG (bB r' (lv r' m')) λ v u0 b'=>?_;exact⟨v,b'⟩
 |@give n i f left l s b e he=>
  intro g' p h st
  refine gY (m:=6*n) e (List.prefix_refl _) h st λ later q dU bB hc hl=>?_
  have el:=(W.jK.gY i b e).kZ
  rw[he] at bB hc el
  have el:l.length+1<=10:=el
  have lv:∀r∈f::l,(b7 U B (.give f l)).testBit r=true:=λ r m=>aI.mpr (.inl m)
  have gl:(l.map P).map (gv dU)=l.map (gv (bR b.ops s).g):=by rw[List.map_map];exact List.map_congr_left λ r m=>bB.gv (lv r (.tail _ m))
  rw[←bB.gv (lv f (.head _)),←gl]
  refine .give (s:=⟨_,dU,_⟩) hc.head.1 (by rw[dR];exact ai [_] X0 (Nm 10) 1 (Pl X0 (Nm 1)) (Nm 10) rfl el) λ r m=>?_
  refine aG (iE (show r∈(f::l).map P from m)) λ r' m' ak=>?_;obtain rfl:=ak
  refine aG (bB r' (lv r' m')) λ v u0 b'=>?_;exact⟨v,b'⟩
noncomputable def wy(f:Nat->Option Nat)(r:Nat):Nat:=(f r).getD 0
theorem zV{i e:Nat}(hb:U.blocks[i]?=some b)(he:∀r,e.testBit r=true->cC U r):∀(os:List Op),(∀o∈os,∀r∈o.e9,cC U r)->∀r,(cK os e).testBit r=true->cC U r:=by
 intro xR
 induction xR with
 |nil=>
  intro _ r h
  exact he r h
 |cons o os aU=>
  intro hd r h
  rcases bU.mp h with⟨a,_⟩|m
  ·exact aU (λ o m=>hd o (.tail _ m)) r a
  ·exact hd o (.head _) r (kU _ m)
theorem BF(ha:∀r,a.testBit r=true->cC U r)(ho:∀r∈o.e9,cC U r)(h:(eK o a).testBit r=true):cC U r:=by
 unfold eK at h
 rw[bh,bh,Bool.or_eq_true,Bool.or_eq_true,aJ,decide_eq_true_iff] at h
 rcases h with(h|h)|h
 ·exact ha r h
 ·exact ho r (mA _ h)
 ·split at h
  ·rw[aJ,decide_eq_true_iff] at h;exact ho r (kU _ h)
  ·simp at h
theorem BG{i e:Nat}(hb:U.blocks[i]?=some b)(he:∀r,e.testBit r=true->cC U r):∀(os:List Op),(∀o∈os,∀r∈o.e9,cC U r)->∀p∈os.zip (jO os e),p.1∈os/\∀r,p.2.testBit r=true->cC U r:=by
 intro xR
 induction xR with
 |nil=>
  intro _ p h
  exact nomatch h
 |cons o os aU=>
  intro hd p h
  rcases ci h with rfl|h
  ·exact⟨.head _,zV hb he os λ o m=>hd o (.tail _ m)⟩
  ·have:=aU (λ o m=>hd o (.tail _ m)) p h
   exact⟨.tail _ this.1,this.2⟩
theorem vL{U:Un}(h:r∈U.par j):∃b,U.blocks[j]?=some b/\U.par j=b.params:=by
 cases e:U.blocks[j]? with
 |none=>unfold Un.par at h;rw[e] at h;cases h
 |some b=>exact⟨b,rfl,Un.qo e⟩
theorem Mf(G:GU U o)(hB:∀(i:Nat) (b:Block),U.blocks[i]?=some b->B[i]?=some (cp U B b)):WK U B:=⟨G.jK,λ i b e=>by rw[hB i b e];rfl,G.go,G.br,G.ol⟩
theorem NX{f:Nat->Option Nat}(G:GU U o)(hB:∀(i:Nat) (b:Block),U.blocks[i]?=some b->B[i]?=some (cp U B b))(Ly:Af B Kn)(hK:∀(i:Nat) r,((Kn[i]?).getD 0).testBit r=true->cC U r)(p:Jf U B f cnt):Sr U B (wy f) cnt:=by
 have W:=Mf G hB
 have lb:∀(j r:Nat),((B[j]?).getD 0).testBit r=true->cC U r:=λ j r h=>hK j r (Ly j r h)
 have ne:∀{r s cE:Nat},AM U B r cE->cE.testBit s=true->cC U r->cC U s->s≠r->wy f s≠wy f r:=λ{r s cE} a b dr ds n e=>by
  refine aK (p.all r dr) λ x hx=>?_
  refine aK (p.all s ds) λ y hy=>?_
  refine p.ap r cE a s b n x hx ?_
  unfold wy at e
  rw[hx,hy] at e
  rw[hy];exact congrArg some e
 have pd:∀j,∀r∈U.par j,cC U r:=λ j r h=>by
  refine aG (vL h) λ b e pe=>?_
  exact .inr ⟨j,b,e,.inl (by rw[←pe];exact h)⟩
 have le:∀(i:Nat) (b:Block),U.blocks[i]?=some b->∀r,(b7 U B b.end_).testBit r=true->cC U r:=λ i b e r h=>by
  rcases aI.mp h with m|⟨j,_,h1,_⟩
  ·exact(G.defs i b e).2 r m
  ·exact lb j r h1
 refine⟨λ i b e q hq w hw r hr n=>?_,λ j r hr s hs n=>?_,λ j=>?_,λ r h=>?_,pd,λ i b e=>(G.defs i b e).1,λ i b e=>(G.defs i b e).2,lb⟩
 ·have a:=BG e (le i b e) b.ops (G.defs i b e).1 q hq
  have od:=(G.defs i b e).1 q.1 a.1
  exact ne (.inr ⟨i,b,e,.inr ⟨q,hq,hw,rfl⟩⟩) hr (od w (mA _ hw)) (BF a.2 od hr) n
 ·refine aG (vL hr) λ b e pe=>?_
  have ds:cC U s:=by
   rw[bh,Bool.or_eq_true,aJ,decide_eq_true_iff] at hs
   rcases hs with hs|hs
   ·exact pd j s hs
   ·exact lb j s hs
  rw[pe] at hr hs
  exact ne (.inr ⟨j,b,e,.inl ⟨hr,rfl⟩⟩) hs (pd j r (by rw[pe];exact hr)) ds n
 ·cases e:U.blocks[j]? with
  |none=>unfold Un.par;rw[e];exact .nil
  |some b=>rw[Un.qo e];exact G.pn j b e
 ·refine aK (p.all r h) λ x hx=>?_
  unfold wy;rw[hx];exact p.lt r x hx
theorem NY{f:Nat->Option Nat}(G:GU U o)(S:Sr U B (wy f) cnt)(p:Jf U B f cnt)(O:jm es f):Sl U es (wy f) cnt:=by
 have at_:∀r,cC U r->aE es (r:Int)=some (.int (wy f r:Int)):=λ r h=>by
  refine aK (p.all r h) λ x hx=>?_
  unfold wy;rw[hx];exact O.some hx
 refine⟨λ i b e o mo r mr=>at_ r (S.ops i b e o mo r mr),λ i b e r mr=>at_ r (S.en i b e r mr),λ i b e r mr=>?_,λ i b e=>?_,G.go⟩
 ·have d:cC U r:=.inr ⟨i,b,e,.inl mr⟩
  exact⟨at_ r d,Nat.ne_of_lt (S.lt r d)⟩
 ·have pe:=Un.qo e
  rw[←pe]
  exact vK (S.pn i) λ r hr s hs n=>S.par i r hr s (by simp only[bh,aJ,dE hs];rfl) n
theorem Dd:∀{E:List Nat} {p:Nat} {s:RS},r∉E->(gE p E s).g r=s.g r:=by
 intro xR
 induction xR with
 |nil=>
  intro _ _ _
  exact rfl
 |cons e E aU=>
  intro p s h
  exact(aU λ m=>h (.tail _ m)).trans (bq λ x=>h (by simp only[x];exact .head _))
theorem yS:∀{E:List Nat} {p:Nat} {s:RS},s.N<+:(gE p E s).N
 |[],_,_=>List.prefix_refl _
 |e::E,p,s=>(lU s.N [.s .l9,.i p]).trans (yS (E:=E) (p:=p+1) (s:=⟨dv s.N [.s .l9,.i p],aV s.g e (pos [.s .l9,.i p] s.N),s.T⟩))
theorem Gy:∀{E:List Nat} {p:Nat} {s:RS},(gE p E s).T=s.T:=by
 intro xR
 induction xR with
 |nil=>
  intro _ _
  exact rfl
 |cons e E aU=>
  intro p s
  exact aU
theorem yT:∀{E:List Nat} {p:Nat} {s:RS},(gE p E s).N.length<=s.N.length+E.length
 |[],_,_=>bE _
 |e::E,p,s=>by
  have a:=yT (E:=E) (p:=p+1) (s:=⟨dv s.N [.s .l9,.i p],aV s.g e (pos [.s .l9,.i p] s.N),s.T⟩)
  have b:=gG s.N [.s .l9,.i p]
  show(gE (p+1) E _).N.length<=s.N.length+(E.length+1)
  exact cV a (by show(dv s.N _).length+E.length<=_;exact ai [_,_,_] (Pl X0 X1) (Pl X2 (Pl X1 (Nm 1))) 1 X0 (Pl X2 (Nm 1)) rfl b)
theorem J9{P:Nat->Nat}:∀(E:List Nat) (p:Nat) (s:RS) (g':Rg),E.Nodup->(∀(i r:Nat),E[i]?=some r->P r=p+i)->(gE p E s).N<+:N'->
  ∃dU,gE p (List.range' p E.length) ⟨N',g',s.T⟩=⟨N',dU,s.T⟩/\∀r∈E,∃v,(gE p E s).g r=some v/\dU (P r)=some v:=by
 intro xR
 induction xR with
 |nil=>
  intro p s g' _ _ _
  exact⟨g',rfl,λ u0 m=>nomatch m⟩
 |cons e E aU=>
  intro p s g' nd h pre
  have t:=mN ((yS (E:=E) (p:=p+1) (s:=⟨dv s.N [.s .l9,.i p],aV s.g e (pos [.s .l9,.i p] s.N),s.T⟩)).trans pre)
  obtain⟨dU,a,b⟩:=aU (p+1) ⟨dv s.N [.s .l9,.i p],aV s.g e (pos [.s .l9,.i p] s.N),s.T⟩ (aV g' p (pos [.s .l9,.i p] s.N)) (kY nd).2 (λ i r x=>by rw[h (i+1) r x];exact dP (aL [_,_] (Pl X0 (Pl X1 (Nm 1))) (Pl (Pl X0 (Nm 1)) X1) rfl) (aL [_,_] (Pl (Pl X0 (Nm 1)) X1) (Pl X0 (Pl X1 (Nm 1))) rfl)) pre
  have step:gE p (List.range' p (E.length+1)) ⟨N',g',s.T⟩=gE (p+1) (List.range' (p+1) E.length) ⟨N',aV g' p (pos [.s .l9,.i p] s.N),s.T⟩:=by
   show gE (p+1) (List.range' (p+1) E.length) ⟨dv N' _,aV g' p (pos _ N'),s.T⟩=_
   rw[t.1,t.2]
  refine⟨dU,step.trans a,λ r m=>?_⟩
  rcases ci m with rfl|m
  ·refine⟨pos [.s .l9,.i p] s.N,(Dd (kY nd).1).trans (if_pos rfl),?_⟩
   have x:P r=p:=h 0 r rfl
   have y:=congrArg RS.g a
   have z:dU p=aV g' p (pos [.s .l9,.i p] s.N) p:=by
    have w:(gE (p+1) (List.range' (p+1) E.length) ⟨N',aV g' p (pos [.s .l9,.i p] s.N),s.T⟩).g p=aV g' p (pos [.s .l9,.i p] s.N) p:=Dd λ m=>Nat.not_succ_le_self _ (List.mem_range'_1.mp m).1
    simp only[a] at w;exact w
   simp only[x,z];exact if_pos rfl
  ·exact b r m
theorem UW{e:End}(h:e.blocks=[]):(∃f k l,e=.call f k l)\/∃f l,e=.give f l:=by
 cases e with
 |call f k l=>exact .inl ⟨f,k,l,rfl⟩
 |give f l=>exact .inr ⟨f,l,rfl⟩
 |_=>injection h
theorem UX{e:End}(h:e.blocks=[j]):∃l,e=.goto j l:=by
 cases e with
 |goto b l=>injection h with u1;subst u1;exact⟨l,rfl⟩
 |_=>cases h
theorem UY{e:End}(h:e.blocks=[t,f]):∃c,e=.branch c t f:=by
 cases e with
 |branch c t f=>cases h;exact⟨c,rfl⟩
 |_=>cases h
noncomputable def Wx(U:Un)(n i:Nat)(left:List Int):Prop:=∀s,∃N T,Walk U n i left s N T
section
variable {U : Un} {b : Block} {i : Nat}
theorem AP(e:U.blocks[i]?=some b)(z:b.end_.blocks=[]):Wx U (n+1) i left:=λ s=>by
 rcases UW z with⟨f,k,l,he⟩|⟨f,l,he⟩
 ·exact⟨_,_,.call e he⟩
 ·exact⟨_,_,.give e he⟩
theorem mO(e:U.blocks[i]?=some b)(z:b.end_.blocks=[j])(h:Wx U n j left):Wx U (n+1) i left:=λ s=>by
 refine aK (UX z) λ l he=>?_
 obtain⟨N,T,w⟩:=h _
 exact⟨N,T,.goto e he w⟩
theorem yB(e:U.blocks[i]?=some b)(z:b.end_.blocks=[t,f])(h:Wx U n (if 0<x then t else f) left):Wx U (n+1) i (x::left):=λ s=>by
 refine aK (UY z) λ c he=>?_
 obtain⟨N,T,w⟩:=h _
 exact⟨N,T,.br e he w⟩
end
noncomputable def Ck:List (List Int):=[[0],[1,0],[1,1,0]]
theorem J'(O:Ord U.blocks o):∀left∈Ck,Wx U 7 0 left:=by
 have at_:∀{bs:List Block} {i:Nat} {b:Block},U.blocks=bs->bs[i]?=some b->U.blocks[i]?=some b:=λ{bs i b} h e=>by rw[h];exact e
 generalize eU:U.blocks=bs at O
 have all:∀{Q:List Int->Prop},Q [0]->Q [1,0]->Q [1,1,0]->∀left∈Ck,Q left:=λ{Q} a b c left m=>by
  rcases ci m with rfl|m
  ·exact a
  ·rcases ci m with rfl|m
   ·exact b
   ·cases cP m;exact c
 cases O with
 |one ea=>exact λ left u0=>AP (at_ (i:=0) eU rfl) ea
 |@join a b c d ea eb ec ed=>
  have k3:∀{left},Wx U 5 3 left:=AP (n:=4) (at_ (i:=3) eU rfl) ed
  have k1:∀{left},Wx U 6 1 left:=mO (at_ (i:=1) eU rfl) eb k3
  have k2:∀{left},Wx U 6 2 left:=mO (at_ (i:=2) eU rfl) ec k3
  exact all (yB (at_ (i:=0) eU rfl) ea k2) (yB (at_ (i:=0) eU rfl) ea k1) (yB (at_ (i:=0) eU rfl) ea k1)
 |@loop a b c d ea eb ec ed=>
  have k3:∀{n left},Wx U (n+1) 3 left:=AP (at_ (i:=3) eU rfl) ed
  have z0:∀{n},Wx U (n+2) 1 [0]:=yB (t:=2) (f:=3) (at_ (i:=1) eU rfl) eb k3
  have z1:∀{n left},Wx U n 1 left->Wx U (n+2) 1 (1::left):=λ h=>yB (t:=2) (f:=3) (at_ (i:=1) eU rfl) eb (mO (at_ (i:=2) eU rfl) ec h)
  exact all (mO (at_ (i:=0) eU rfl) ea z0) (mO (at_ (i:=0) eU rfl) ea (z1 z0)) (mO (at_ (i:=0) eU rfl) ea (z1 (z1 z0)))
theorem Ka(o:Op)(s:RS):(qf o s).N.length<=s.N.length+2:=by
 cases o with
 |define k v=>exact Nat.le_add_right ..
 |fix a b u v=>exact cV (gG ..) (jj (gG ..))
 |_=>exact Nat.le_succ_of_le (gG ..)
theorem Hx:∀(os:List Op) (s:RS),(bR os s).N.length<=s.N.length+2*os.length:=by
 intro xR
 induction xR with
 |nil=>
  intro _
  exact bE _
 |cons o os aU=>
  intro s
  have a:=Ka o s
  have b:=aU (qf o s)
  show(bR os (qf o s)).N.length<=s.N.length+2*(os.length+1)
  exact aS [_,_,_,_] X0 (Pl X1 (Ml 2 (Pl X2 (Nm 1)))) 1 X3 (Pl X1 (Nm 2)) 1 X0 (Pl X3 (Ml 2 X2)) rfl a b
theorem NZ(h:∀d∈s.T,d.dp<=5):∀d∈(qf o s).T,d.dp<=5:=by
 cases o with
 |define k v=>
  intro d m
  rcases gP m with m|m
  ·exact h d m
  ·cases cP m;exact eP rfl
 |fix a b u v=>
  intro d m
  rcases gP m with m|m
  ·exact h d m
  ·cases cP m;exact eP rfl
 |_=>exact h
theorem o7:∀{os:List Op} {s:RS},(∀d∈s.T,d.dp<=5)->∀d∈(bR os s).T,d.dp<=5:=by
 intro xR
 induction xR with
 |nil=>
  intro _ h
  exact h
 |cons o os aU=>
  intro _ h
  exact aU (NZ h)
theorem yU:∀(l:List Nat),D.IL (l.map gD)=0:=by
 intro xR
 induction xR with
 |nil=>
  exact rfl
 |cons _ l aU=>
  show Nat.max 0 (D.IL (l.map gD))=0;rw[aU];rfl
theorem Hy(f k:Nat)(l:List Nat):(yy f k l).dp<=5:=by
 show Nat.max 0 (Nat.max 0 (Nat.max 0 (Nat.max (D.IL (l.map gD)+1) 0)))+1<=5
 rw[yU];decide
theorem Hz(f:Nat)(l:List Nat):(yz f l).dp<=5:=by
 show Nat.max 0 (Nat.max 0 (Nat.max (D.IL (l.map gD)+1) 0))+1<=5
 rw[yU];decide
theorem N0:∀{T:List D},(∀d∈T,d.dp<=5)->D.IL T<=5:=by
 intro xR
 induction xR with
 |nil=>
  intro _
  exact dz _
 |cons d T aU=>
  intro h
  exact Nat.max_le.mpr ⟨h d (.head _),aU λ d m=>h d (.tail _ m)⟩
theorem Walk.bounds(W:WK U B)(w:Walk U n i left s N T):N.length<=s.N.length+4*n/\((∀d∈s.T,d.dp<=5)->∀d∈T,d.dp<=5):=by
 have Jj:∀{T:List D} {d:D},(∀d∈T,d.dp<=5)->d.dp<=5->∀e∈T++[d],e.dp<=5:=λ h hd e m=>by
  rcases gP m with m|m
  ·exact h e m
  ·cases cP m;exact hd
 have ln:∀{i:Nat} {b:Block} (s:RS),U.blocks[i]?=some b->(bR b.ops s).N.length<=s.N.length+4:=λ s e=>cV (Hx ..) (by have:=W.ol _ _ e;exact ai [_,_] (Pl X0 (Ml 2 X1)) (Pl X0 (Nm 4)) 2 X1 (Nm 2) rfl this)
 induction w with
 |@goto n i j left s b l N T e he w ih=>exact⟨by have:=ih.1;have:=ln s e;dsimp only at*;exact aS [_,_,_,_] X0 (Pl X1 (Ml 4 (Pl X2 (Nm 1)))) 1 X0 (Pl X3 (Ml 4 X2)) 1 X3 (Pl X1 (Nm 4)) rfl ih.1 this,λ h=>ih.2 (o7 h)⟩
 |@br n i c t f x left s b N T e he w ih=>exact⟨by have:=ih.1;have:=ln s e;unfold RS.say at*;dsimp only at*;exact aS [_,_,_,_] X0 (Pl X1 (Ml 4 (Pl X2 (Nm 1)))) 1 X0 (Pl X3 (Ml 4 X2)) 1 X3 (Pl X1 (Nm 4)) rfl ih.1 this,λ h=>ih.2 (Jj (o7 h) (eP rfl))⟩
 |@stop n i c t f s b e he=>exact⟨by have:=ln s e;exact ai [_,_,_] X0 (Pl X1 (Ml 4 (Pl X2 (Nm 1)))) 1 X0 (Pl X1 (Nm 4)) rfl this,λ h=>Jj (o7 h) (eP rfl)⟩
 |@call n i f k left l s b e he=>exact⟨by have:=ln s e;exact ai [_,_,_] X0 (Pl X1 (Ml 4 (Pl X2 (Nm 1)))) 1 X0 (Pl X1 (Nm 4)) rfl this,λ h=>Jj (o7 h) (Hy ..)⟩
 |@give n i f left l s b e he=>exact⟨by have:=ln s e;exact ai [_,_,_] X0 (Pl X1 (Ml 4 (Pl X2 (Nm 1)))) 1 X0 (Pl X1 (Nm 4)) rfl this,λ h=>Jj (o7 h) (Hz ..)⟩
noncomputable def dn.Gz(y:dn):Prop:=∀lab,∃w l,y.v lab=.tup (.str w::l)/\V.str w∈[V.str .d7,V.str .call,V.str .give]
theorem xG(U:Un)(P:Nat->Nat)(cnt:Nat)(e:End):∃pre y,cL U P cnt none e=pre++[y]/\y.Gz:=by
 cases e with
 |goto j l=>exact⟨_,.d7 j,by rw[cL,if_neg nofun],λ u0=>⟨_,_,rfl,.head _⟩⟩
 |branch c t e=>exact⟨[.br (P c) e],.d7 t,by rw[cL,if_neg nofun];rfl,λ u0=>⟨_,_,rfl,.head _⟩⟩
 |call f k l=>exact⟨[],_,rfl,λ u0=>⟨_,_,rfl,.tail _ (.head _)⟩⟩
 |give f l=>exact⟨[],_,rfl,λ u0=>⟨_,_,rfl,.tail _ (.tail _ (.head _))⟩⟩
theorem vM{P:Nat->Nat}:∀{o:List Nat},0<o.length->(∀k∈o,k<U.blocks.length)->∃pre y,dI U P cnt o=pre++[y]/\y.Gz
 |[k],_,h=>by
  have e:=kH (h k (.head _))
  refine fh (xG U P cnt (U.blocks[k]'(h k (.head _))).end_) λ pre y a b=>?_
  refine⟨(U.blocks[k]'(h k (.head _))).ops.map (λ o=> .op (o.map P))++pre,y,?_,b⟩
  show U.bcode P cnt k none++[]=_
  unfold Un.bcode
  simp only[eE,e,d6,←a];rfl
 |k::k'::o,_,h=>by
  refine fh (vM (U:=U) (P:=P) (cnt:=cnt) (o:=k'::o) (Nat.succ_pos _) λ k m=>h k (.tail _ m)) λ pre y a b=>?_
  exact⟨U.bcode P cnt k (some k')++pre,y,by simp only[d6,←a];rfl,b⟩
theorem vg{P:Nat->Nat}(S:Sane U):∀(o:List Nat),(dI U P cnt o).length<=14*o.length:=by
 intro xR
 induction xR with
 |nil=>
  exact bE _
 |cons k o aU=>
  show(U.bcode P cnt k o.head?++dI U P cnt o).length<=14*(o.length+1)
  rw[eQ]
  have:(U.bcode P cnt k o.head?).length<=14:=by
   unfold Un.bcode
   cases e:U.blocks[k]? with
   |none=>exact dz _
   |some b=>exact my (S.gY k b e).oF
  exact cV (bQ this aU) (bw (Nat.add_comm _ _))
theorem Kc:(-(((x0+(1:Nat)):Nat):Int))<=(-1:Int):=Int.neg_le_neg (Int.ofNat_le.mpr (Nat.le_add_left _ _))
theorem Mg{Q:V->H->Prop}(d:D)(n:d.dp<=20)(a:E8 h d v)(b:E8 h d w)(q:Q (.bool false) h):B3 v w Q h:=by unfold B3;exact⟨⟨d,n,a,b⟩,q⟩
theorem Rc{B:Bool->H->Prop}(f:∀v∈l,∃s,v=.str s)(m:V.str a∈l)(q:B false h):iq (.str a) (.tup l) B h:=by unfold iq;exact⟨a,rfl,f,λ u0=>q,λ n=>absurd m n⟩
theorem Kg:jH (l++[x]) (-1)=some x:=by
 unfold jH
 rw[if_neg (by decide),if_pos (by rw[eQ];show-((l.length+1:Nat):Int)<= -1;exact Kc),eQ,show((-1:Int)+((l.length+[x].length:Nat):Int)).toNat=l.length by show((-1:Int)+((l.length+1:Nat):Int)).toNat=_;exact Vp]
 exact C2 l x []
theorem HA(O:Ord bs o):∃o',o=0::o':=by cases O<;>exact⟨_,rfl⟩
theorem tD{f:Nat->Option Nat}{K:Out->Fr->H->Prop}(G:GU U o)(hB:∀(i:Nat) (b:Block),U.blocks[i]?=some b->B[i]?=some (cp U B b))(Ly:Af B Kn)(Xo:sub ((Kn[0]?).getD 0) (b8 U.entry))(S:Sr U B (wy f) cnt)(p:Jf U B f cnt)
  (hu:bF h x U)(ip:AN h U (wy f) cnt o pr ia)(gZ:h of=some (.ao es))(hi:∀r:Nat,r<U.count->aE es (r:Int)=some (.int (r:Int)))(hw:h wa=some (.list (left.map V.int)))(hl:left∈Ck)
  (q:∀h' s7 s8,le h h'->K .next [s0,s1,some (.ref x.u),some (.ref pr),s4,some (.ref of),some (.ref wa),s7,s8,none] h'):
  wB (ah prog (n+3)) yH [s0,s1,some (.ref x.u),some (.ref pr),s4,some (.ref of),some (.ref wa),s7,s8,none] K h:=by
 have W:=Mf G hB
 have ll:left.length<=10:=by
  have:∀l∈Ck,l.length<=10:=by decide
  exact this left hl
 refine gN (J' G.ord left hl (gE 0 U.entry (.zero []))) λ N T w=>?_
 obtain⟨dU,Ft,k9⟩:=J9 (P:=wy f) (N':=N) U.entry 0 (.zero []) (λ u0=>none) G.nd (λ i r e=>by unfold wy;rw[p.en i r e,Nat.zero_add];rfl) w.pre
 have b0:∀r,((B[0]?).getD 0).testBit r=true->r∈U.entry:=λ r hr=>by
  have:=Xo r (Ly 0 r hr)
  rw[aJ,decide_eq_true_iff] at this;exact this
 have bd:=w.bounds W
 have el:=yT (E:=U.entry) (p:=0) (s:=.zero [])
 have Xp:(gE 0 U.entry (.zero [])).N.length<=0+U.entry.length:=el
 have e2:=G.el
 have Tl:=G.ord.facts
 refine aK (HA G.ord) λ o' eo=>?_
 obtain⟨k,hk,ek⟩:∃k:Nat,k<=1/\OZ (vv U (wy f) cnt o)=(k:Int):=by
  cases vv U (wy f) cnt o
  ·exact⟨0,by decide,rfl⟩
  ·exact⟨1,by decide,rfl⟩
 have cl:=p.le
 have run:=Hw (R:=cnt+k) S W Tl.2.1 Tl.2.2.2 (Nat.le_add_right ..) w (g':=dU) (p:=0) (λ r hr=>k9 r (b0 r hr)) (by rw[eo];exact .head _)
 rw[Gy] at run
 refine cR λ nm hn=>?_
 have jI:=aA (o:=.b9 []) hn
 refine vf (n0:=n) (h:=aC h nm (.b9 [])) W hu gZ hi jI (aa ..) hn hw ll e2 w (by decide) (λ r hr=>by refine aG (k9 r (b0 r hr)) λ v a u0=>?_;exact⟨v,a⟩) λ c hb ws bB a1 a2 a3 a4 a5 a6=>?_
 have hp:=ip.pr
 rw[ek] at hp
 refine ay (a3 _ _ (a1 _ _ hu.u)) rfl ?_;refine qi (a3 _ _ (a1 _ _ hu.e)) (by rw[ac];exact cO e2 (by decide)) ?_
 simp only[ac]
 refine xF (n0:=n) (E:=U.entry.length) (R:=cnt+k) (N:=N) (N':=N) (T:=T) a3 (a1 _ _ hp) rfl rfl (a1 _ _ ip.ia) (cV (vg G.jK o) (by have:=Tl.2.2.1;exact ai [_] (Ml 14 X0) (Nm 1000) 17 X0 (Nm 4) rfl this)) (by exact aS [_,_] (Pl X0 X1) (Nm 1000) 1 X1 (Nm 1) 1 X0 (Nm 940) rfl hk cl) e2 a6 a2 (by exact fH [_,_,_] X0 (Nm 100) 1 X0 (Pl X1 (Ml 4 (Nm 7))) 1 X1 (Pl (Nm 0) X2) 1 X2 (Nm 2) rfl bd.1 Xp e2) (a1 _ _ hw) ll (n:=42) (by rw[show gE 0 (List.range' 0 U.entry.length) (.zero N)=⟨N,dU,[]⟩ from Ft];exact run) (by decide) λ c' fO Xq cN b1 b2 b3 b4 b5 b6=>?_
 have dp:(D.list T).dp<=20:=by
  have:=N0 (bd.2 (by rw[Gy];exact λ u0 m=>nomatch m))
  show D.IL T+1<=20
  exact ai [_] (Pl X0 (Nm 1)) (Nm 20) 1 X0 (Nm 5) rfl this
 refine Mg (.list T) dp ⟨c',Xq,rfl,b3 _ _ b4,iT b3 _ _ b5⟩ ⟨c,ws,rfl,b3 _ _ (b1 _ _ a4),iT (aF b1 b3) _ _ a5⟩ ?_
 exact q cN _ _ (aF a1 (aF b1 b3))
theorem Rd{L:List Int}{K:Out->Fr->H->Prop}(hd:h dk=some (.list [.ref s,.int 0]))(hs:h s=some (.list (L.map V.int)))(hL:L.length<=100)(hK:∀fr h,K (.ret (.bool true)) fr h):
  wB (ah prog (n+7)) Ca [s0,some (.ref dk),none,none,none,none,none,none,none,none] K h:=by
 refine vd hd hs hL λ x U o bB hu G=>?_
 refine ik G.kn λ Kn k1 k2 k3=>?_
 have h0:0<U.blocks.length:=by have O:=G.ord;generalize U.blocks=bs at O;cases O<;>exact Nat.succ_pos _
 refine uq G.jK hu h0 G.nd k1 λ B pl d cnt es f cN Se hB Ly cq uD O p=>?_
 have S:=NX G hB Ly k3 p
 refine qa G.jK (hu.le cq) G.ord uD p.le (NY G S p O) λ pr ia fv oG ip=>?_
 have oQ:=(hu.le cq).le oG
 clear uD O hu cq oG hd hs
 have YW:=ip
 obtain⟨p1,p2⟩:=ip
 refine ay p1 rfl ?_;refine ay p1 rfl ?_;refine ay p1 rfl ?_;refine ay p1 rfl ?_;refine ay p1 rfl ?_;refine bf (sm rfl) λ td h4=>?_
 refine ay (ax oQ.u h4) rfl ?_;refine bf (sm rfl) λ y h5=>?_
 refine Mg (.list [.int 0,.str .u,.int U.cJ,.bool false,.bool false]) (eP rfl) ⟨td,_,rfl,ax (aa ..) h5,_,_,rfl,rfl,_,_,rfl,rfl,_,_,rfl,rfl,_,_,rfl,rfl,_,_,rfl,rfl,rfl⟩ ⟨y,_,rfl,aa ..,_,_,rfl,rfl,_,_,rfl,rfl,_,_,rfl,rfl,_,_,rfl,rfl,_,_,rfl,rfl,rfl⟩ ?_
 have UZ:∀v∈[V.str .d7,V.str .call,V.str .give],∃s,v=.str s:=λ v m=>by
  rcases ci m with rfl|m
  ·exact⟨_,rfl⟩
  ·rcases ci m with rfl|m
   ·exact⟨_,rfl⟩
   ·cases cP m;exact⟨_,rfl⟩
 obtain⟨pre,z,ec,lv⟩:=vM (U:=U) (P:=wy f) (cnt:=cnt) (o:=o) (by have O:=G.ord;generalize U.blocks=bs at O;cases O<;>exact Nat.succ_pos _) G.ord.facts.1
 refine fh (lv (kD U (wy f) cnt o)) λ w l ew mw=>?_
 have VZ:=p2
 rw[ec,iD] at VZ
 refine ay (ax (ax p1 h4) h5) rfl ?_;refine cQ (ax (ax VZ h4) h5) Kg ?_;refine An ew rfl ?_
 refine bT (l:=[V.str .d7,V.str .call,V.str .give]) (sm rfl) ?_;refine Rc UZ mw ?_
 have cn:=G.jK.cnt
 have pl:(Fc 0 U.count).length<aZ:=by rw[oq];exact cO cn (by decide)
 refine ay (ax (ax oQ.u h4) h5) rfl ?_;refine fT (n:=U.count) (cO cn (by decide)) ?_
 refine Dc (λ u0=>rfl) U.count 0 [] ?_
 refine bf (l:=Fc 0 U.count) pl λ y2 h6=>?_;refine LO (aa ..) pl (tB 0 U.count) (qF 0 U.count) λ of h7=>?_
 refine bf (l:=[V.int 0]) (sm rfl) λ w1 h8=>?_;refine bf (l:=[V.int 1,V.int 0]) (sm rfl) λ w2 h9=>?_;refine bf (l:=[V.int 1,V.int 1,V.int 0]) (sm rfl) λ w3 Su=>?_;refine bT (sm rfl) ?_;refine fP (sm rfl) ?_
 have jI:=aX (o:=.list [V.int 1,V.int 1,V.int 0]) (aX (o:=.list [V.int 1,V.int 0]) (aX (o:=.list [V.int 0]) (aX (o:=.ao (DP 0 U.count)) (aX (o:=.list (Fc 0 U.count)) (aX (aA h4) h5) h6) h7) h8) h9) Su
 have hu:=oQ.le jI
 have O7:AN _ U (wy f) cnt o pr ia:=⟨jI _ _ p1,jI _ _ p2⟩
 have gZ:=ax (p:=.list [V.int 1,V.int 1,V.int 0]) (ax (p:=.list [V.int 1,V.int 0]) (ax (p:=.list [V.int 0]) (aa _ of (.ao (DP 0 U.count))) h8) h9) Su
 have e1:=ax (p:=.list [V.int 1,V.int 1,V.int 0]) (ax (p:=.list [V.int 1,V.int 0]) (aa _ w1 (.list [V.int 0])) h9) Su
 have e2:=ax (p:=.list [V.int 1,V.int 1,V.int 0]) (aa _ w2 (.list [V.int 1,V.int 0])) Su
 have e3:∀g:H,aC g w3 (.list [V.int 1,V.int 1,V.int 0]) w3=_:=λ g=>aa g w3 (.list [V.int 1,V.int 1,V.int 0])
 have hi:∀r:Nat,r<U.count->aE (DP 0 U.count) (r:Int)=some (.int (r:Int)):=λ r hr=>tC 0 U.count (dz _) (by exact ai [_,_] (Pl X0 (Nm 1)) (Pl (Nm 0) X1) 1 (Pl X0 (Nm 1)) X1 rfl hr)
 refine wv ?_
 refine tD (n:=n+4) (left:=[0]) G hB Ly k2 S p hu O7 gZ hi e1 (.head _) λ dU u0 u0 DH=>?_
 refine wv ?_
 refine tD (n:=n+4) (left:=[1,0]) G hB Ly k2 S p (hu.le DH) ⟨DH _ _ O7.pr,DH _ _ O7.ia⟩ (DH _ _ gZ) hi (DH _ _ e2) (.tail _ (.head _)) λ P2 u0 u0 Aw=>?_
 have Aw:=aF DH Aw
 refine wv ?_
 refine tD (n:=n+4) (left:=[1,1,0]) G hB Ly k2 S p (hu.le Aw) ⟨Aw _ _ O7.pr,Aw _ _ O7.ia⟩ (Aw _ _ gZ) hi (Aw _ _ (e3 _)) (.tail _ (.tail _ (.head _))) λ Jd u0 u0 YI=>?_
 refine Oz ?_
 exact hK _ _
open PySem
theorem aq:type_of%@wpAny_bind:=@wpAny_bind
theorem a8:type_of%@wpAny_pure:=@wpAny_pure
theorem cW:type_of%@wpAny_mono:=@wpAny_mono
theorem fR:type_of%@Heap.get?_push_of_some:=@Heap.get?_push_of_some
theorem fW:type_of%@Heap.get?_push_size:=@Heap.get?_push_size
theorem iI:type_of%@Heap.lt_size:=@Heap.lt_size
theorem bm(h:(a&&b)=true):a=true/\b=true:=Bool.and_eq_true_iff.mp h
theorem cu(h:(a&&b&&c)=true):a=true/\b=true/\c=true:=⟨(bm (bm h).1).1,(bm (bm h).1).2,(bm h).2⟩
theorem dm(h:(a&&b&&c&&d)=true):a=true/\b=true/\c=true/\d=true:=⟨(cu (bm h).1).1,(cu (bm h).1).2.1,(cu (bm h).1).2.2,(bm h).2⟩
theorem aw{α:Type}{o:Option α}{p:α->Bool}(h:o.any p=true):∃a,p a=true:=by
 cases o with
 |none=>exact kK h
 |some a=>exact⟨a,h⟩
theorem Re(h:(!b)=true):b=false:=by cases b with|false=>rfl|true=>exact kK h
theorem uG{p:Prop}[d:Decidable p](h:decide p=true):p:=gS h
noncomputable def aN(x:Expr):Bool:=x.ctorIdx !=22
noncomputable def eJ(x:Expr):Bool:=x.ctorIdx !=16
noncomputable def fz(x:Expr):Bool:=x.ctorIdx !=7
noncomputable def sv(x:Expr):Bool:=x.ctorIdx !=8&&x.ctorIdx !=9&&x.ctorIdx !=10
noncomputable abbrev Mh(x:Expr):={q:BoolOp×List Expr×Pos//x=.BoolOp q.1 q.2.1 q.2.2}
noncomputable def Mi(x:Expr):Option (Mh x):=if h:x.ctorIdx=0 then some (Expr.BoolOp.elim (motive_1:=Mh) x h λ a b c=>⟨(a,b,c),rfl⟩) else none
noncomputable abbrev P4(x:Expr):={q:Expr×Operator×Expr×Pos//x=.BinOp q.1 q.2.1 q.2.2.1 q.2.2.2}
noncomputable def U0(x:Expr):Option (P4 x):=if h:x.ctorIdx=2 then some (Expr.BinOp.elim (motive_1:=P4) x h λ a b c d=>⟨(a,b,c,d),rfl⟩) else none
noncomputable abbrev V0(x:Expr):={q:UnaryOp×Expr×Pos//x=.UnaryOp q.1 q.2.1 q.2.2}
noncomputable def O8(x:Expr):Option (V0 x):=if h:x.ctorIdx=3 then some (Expr.UnaryOp.elim (motive_1:=V0) x h λ a b c=>⟨(a,b,c),rfl⟩) else none
noncomputable abbrev V1(x:Expr):={q:Expr×Expr×Expr×Pos//x=.IfExp q.1 q.2.1 q.2.2.1 q.2.2.2}
noncomputable def Xr(x:Expr):Option (V1 x):=if h:x.ctorIdx=5 then some (Expr.IfExp.elim (motive_1:=V1) x h λ a b c d=>⟨(a,b,c,d),rfl⟩) else none
noncomputable abbrev Mj(x:Expr):={q:List (Option Expr)×List Expr×Pos//x=.Dict q.1 q.2.1 q.2.2}
noncomputable def F5(x:Expr):Option (Mj x):=if h:x.ctorIdx=6 then some (Expr.Dict.elim (motive_1:=Mj) x h λ a b c=>⟨(a,b,c),rfl⟩) else none
noncomputable abbrev V2(x:Expr):={q:Expr×List Comprehension×Scope×Pos//x=.ListComp q.1 q.2.1 q.2.2.1 q.2.2.2}
noncomputable def Xt(x:Expr):Option (V2 x):=if h:x.ctorIdx=8 then some (Expr.ListComp.elim (motive_1:=V2) x h λ a b c d=>⟨(a,b,c,d),rfl⟩) else none
noncomputable abbrev P5(x:Expr):={q:Expr×List CmpOp×List Expr×Pos//x=.Compare q.1 q.2.1 q.2.2.1 q.2.2.2}
noncomputable def P6(x:Expr):Option (P5 x):=if h:x.ctorIdx=15 then some (Expr.Compare.elim (motive_1:=P5) x h λ a b c d=>⟨(a,b,c,d),rfl⟩) else none
noncomputable abbrev Mk(x:Expr):={q:Expr×List Expr×List Keyword×Pos//x=.Call q.1 q.2.1 q.2.2.1 q.2.2.2}
noncomputable def Mm(x:Expr):Option (Mk x):=if h:x.ctorIdx=16 then some (Expr.Call.elim (motive_1:=Mk) x h λ a b c d=>⟨(a,b,c,d),rfl⟩) else none
noncomputable abbrev GA(x:Expr):={q:Const×Nat×Pos//x=.Constant q.1 q.2.1 q.2.2}
noncomputable def gK(x:Expr):Option (GA x):=if h:x.ctorIdx=19 then some (Expr.Constant.elim (motive_1:=GA) x h λ a b c=>⟨(a,b,c),rfl⟩) else none
noncomputable abbrev Mn(x:Expr):={q:Expr×Str×Pos//x=.Attribute q.1 q.2.1 q.2.2}
noncomputable def F6(x:Expr):Option (Mn x):=if h:x.ctorIdx=20 then some (Expr.Attribute.elim (motive_1:=Mn) x h λ a b c=>⟨(a,b,c),rfl⟩) else none
noncomputable abbrev Mo(x:Expr):={q:Expr×Expr×Pos//x=.Subscript q.1 q.2.1 q.2.2}
noncomputable def Cm(x:Expr):Option (Mo x):=if h:x.ctorIdx=21 then some (Expr.Subscript.elim (motive_1:=Mo) x h λ a b c=>⟨(a,b,c),rfl⟩) else none
noncomputable abbrev F7(x:Expr):={q:Str×Pos//x=.Name q.1 q.2}
noncomputable def rj(x:Expr):Option (F7 x):=if h:x.ctorIdx=23 then some (Expr.Name.elim (motive_1:=F7) x h λ a b=>⟨(a,b),rfl⟩) else none
noncomputable abbrev Mp(x:Expr):={q:List Expr×Pos//x=.List q.1 q.2}
noncomputable def Mq(x:Expr):Option (Mp x):=if h:x.ctorIdx=24 then some (Expr.List.elim (motive_1:=Mp) x h λ a b=>⟨(a,b),rfl⟩) else none
noncomputable abbrev P7(x:Expr):={q:List Expr×Nat×Pos//x=.Tuple q.1 q.2.1 q.2.2}
noncomputable def Nt(x:Expr):Option (P7 x):=if h:x.ctorIdx=25 then some (Expr.Tuple.elim (motive_1:=P7) x h λ a b c=>⟨(a,b,c),rfl⟩) else none
noncomputable abbrev GB(x:Expr):={q:Option Expr×Option Expr×Option Expr×Pos//x=.Slice q.1 q.2.1 q.2.2.1 q.2.2.2}
noncomputable def N1(x:Expr):Option (GB x):=if h:x.ctorIdx=26 then some (Expr.Slice.elim (motive_1:=GB) x h λ a b c d=>⟨(a,b,c,d),rfl⟩) else none
noncomputable def nA{α:Type}:(l:List α)->Option {a:α//l=[a]}
 |[a]=>some ⟨a,rfl⟩
 |_=>none
noncomputable def Nu{α:Type}:(l:List α)->Option {p:α×α//l=[p.1,p.2]}
 |[a,b]=>some ⟨(a,b),rfl⟩
 |_=>none
noncomputable def xX{α:Type}:(o:Option α)->Option {a:α//o=some a}
 |some a=>some ⟨a,rfl⟩
 |none=>none
noncomputable abbrev Rf(x:Expr):={q:Expr×CmpOp×Expr×Pos//x=.Compare q.1 [q.2.1] [q.2.2.1] q.2.2.2}
noncomputable def Cn(x:Expr):Option (Rf x):=
 (P6 x).bind λ q=>(nA q.1.2.1).bind λ a=>(nA q.1.2.2.1).map λ b=>⟨(q.1.1,a.1,b.1,q.1.2.2.2),(q.2.trans (congrArg (λ o=>Expr.Compare q.1.1 o q.1.2.2.1 q.1.2.2.2) a.2)).trans (congrArg (λ r=>Expr.Compare q.1.1 [a.1] r q.1.2.2.2) b.2)⟩
noncomputable def GC(x:Expr):Bool:=(Mq x).any λ q=>q.1.1.isEmpty
noncomputable def AQ(x:Expr):Bool:=(F5 x).any λ q=>q.1.1.isEmpty&&q.1.2.1.isEmpty
noncomputable abbrev N2(x:Expr):={q:Str×List Expr×Pos×Pos//x=.Call (.Name q.1 q.2.2.1) q.2.1 [] q.2.2.2}
noncomputable def jR(x:Expr):Option (N2 x):=
 (Mm x).bind λ q=>(rj q.1.1).bind λ y=>if e:q.1.2.2.1.isEmpty=true then some ⟨(y.1.1,q.1.2.1,y.1.2,q.1.2.2.2),(q.2.trans (congrArg (λ f=>Expr.Call f q.1.2.1 q.1.2.2.1 q.1.2.2.2) y.2)).trans (congrArg (λ k=>Expr.Call (.Name y.1.1 y.1.2) q.1.2.1 k q.1.2.2.2) (List.isEmpty_iff.mp e))⟩ else none
noncomputable abbrev N3(x:Expr):={q:Expr×Str×List Expr×Pos×Pos//x=.Call (.Attribute q.1 q.2.1 q.2.2.2.1) q.2.2.1 [] q.2.2.2.2/\eJ q.1=true/\(q.2.2.2.1.endLine==q.2.2.2.2.line)=true/\q.2.2.1.length<20/\q.2.2.1.all aN=true}
noncomputable def GD(x:Expr):Option (N3 x):=
 (Mm x).bind λ q=>(F6 q.1.1).bind λ y=>
  if e:q.1.2.2.1.isEmpty=true/\eJ y.1.1=true/\(y.1.2.2.endLine==q.1.2.2.2.line)=true/\q.1.2.1.length<20/\q.1.2.1.all aN=true then some ⟨(y.1.1,y.1.2.1,q.1.2.1,y.1.2.2,q.1.2.2.2),(q.2.trans (congrArg (λ f=>Expr.Call f q.1.2.1 q.1.2.2.1 q.1.2.2.2) y.2)).trans (congrArg (λ k=>Expr.Call (.Attribute y.1.1 y.1.2.1 y.1.2.2) q.1.2.1 k q.1.2.2.2) (List.isEmpty_iff.mp e.1)),e.2⟩ else none
noncomputable abbrev Rh(x:Expr):={q:Expr×Str×Expr×List Expr×Scope×Pos×Pos//x=.ListComp q.1 [⟨.Name q.2.1 q.2.2.2.2.2.1,q.2.2.1,q.2.2.2.1,0⟩] q.2.2.2.2.1 q.2.2.2.2.2.2}
noncomputable def Rj(x:Expr):Option (Rh x):=
 (Xt x).bind λ q=>(nA q.1.2.1).bind λ⟨⟨tg,it,AG,as⟩,e⟩=>(rj tg).bind λ z=>if e0:as=0 then
  some ⟨(q.1.1,z.1.1,it,AG,q.1.2.2.1,z.1.2,q.1.2.2.2),((q.2.trans (congrArg (λ l=>Expr.ListComp q.1.1 l q.1.2.2.1 q.1.2.2.2) e)).trans (congrArg (λ n=>Expr.ListComp q.1.1 [⟨n,it,AG,as⟩] q.1.2.2.1 q.1.2.2.2) z.2)).trans (congrArg (λ i=>Expr.ListComp q.1.1 [⟨.Name z.1.1 z.1.2,it,AG,i⟩] q.1.2.2.1 q.1.2.2.2) e0)⟩ else none
noncomputable def P8(e:Ex):Option {i:Int//e=.int i}:=if h:e.ctorIdx=2 then some (Ex.int.elim (motive_1:=λ e=>{i:Int//e=.int i}) e h λ i=>⟨i,rfl⟩) else none
noncomputable def P9(e:Ex):Option {i:Bool//e=.bool i}:=if h:e.ctorIdx=1 then some (Ex.bool.elim (motive_1:=λ e=>{i:Bool//e=.bool i}) e h λ i=>⟨i,rfl⟩) else none
noncomputable def mV(x:Expr):Bool:=x.ctorIdx !=0&&x.ctorIdx !=5&&x.ctorIdx !=15&&!((O8 x).any λ q=>decide (q.1.1=.Not))
theorem O9(e:n=m)(h:m<aZ):n<=sizeLine:=e ▸ cV (Nat.le_of_lt h) (eP rfl)
theorem Tm(h:a<=i)(hi:i<n)(hl:n<aZ):a<=sizeLine:=cV (cV h (Nat.le_of_lt hi)) (cV (Nat.le_of_lt hl) (eP rfl))
noncomputable def jn(x:Sy):Str:=Str.ofString (CJ "" ["const","move","global","setglobal","define","free","closure","fix","prim","jump","branchfalse","call","give","goto","branch","target","constant","source","sources","procedure","rows","label","primitive","u","made","in","test"] x.val)
noncomputable def gz(x:At):Str:=Str.ofString (CJ "" ["number","title","needed","has_rest","is_continuation","registers","free","instructions","params","ops","end","entry","count","blocks","fresh","sources","is_wanted","free_target","take","first_target","read_elsewhere","unit","places","starts","jumps","has_scratch","here","emit","emit_to","moves","emit_block","finished","masks","put","of"] x.val)
theorem AR{α:Type}{f:α->Str}:∀{l:List α},(l.map f).Nodup->∀{a b:α},a∈l->b∈l->f a=f b->a=b
 |x::l,nd,a,b,ha,hb,e=>by
  have nd:=kY nd
  rcases ci ha with rfl|Sm<;>rcases ci hb with rfl|fO
  ·rfl
  ·exact absurd (e ▸ List.mem_map_of_mem fO) nd.1
  ·exact absurd (e ▸ List.mem_map_of_mem Sm) nd.1
  ·exact AR nd.2 Sm fO e
noncomputable def Co:List Sy:=[.const,.move,.global,.mR,.define,.free,.closure,.fix,.prim,.d7,.dJ,.call,.give,.goto,.branch,.target,.constant,.source,.sources,.qt,.rows,.label,.qu,.u,.made,.l9,.test]
noncomputable def Cp:List At:=[.number,.title,.cJ,.cF,.aT,.cX,.free,.bv,.params,.ops,.eZ,.entry,.count,.blocks,.fresh,.sources,.cv,.eu,.take,.dK,.cS,.unit,.places,.starts,.vt,.eA,.here,.emit,.fB,.moves,.eh,.finished,.gj,.put,.off]
theorem wF:∀a:Sy,a∈Co:=by decide+kernel
theorem wX(h:jn a=jn b):a=b:=AR (l:=Co) (by decide+kernel) (wF a) (wF b) h
theorem Kh(h:gz a=gz b):a=b:=
 have m:∀a:At,a∈Cp:=by decide+kernel
 AR (l:=Cp) (by decide+kernel) (m a) (m b) h
variable {Z : Nat -> Prop}
noncomputable abbrev dF(xs:Array Value)(n:Nat):Obj:={cls:=.type "list",data:=.seq xs n}
noncomputable abbrev uH(xs:Array Value)(n:Nat):Obj:={cls:=.type "tuple",data:=.seq xs n}
noncomputable abbrev iN(es:Array DictEntry)(n:Nat):Obj:={cls:=.type "dict",data:=.dict es n}
noncomputable def aR(h:Heap)(a:Nat):Prop:=∃o,h.get? a=some o
theorem bW(q:h.objs.size<=a):¬aR h a:=λ hP=>by obtain⟨_,e⟩:=hP;exact absurd (iI e) (Nat.not_lt.mpr q)
mutual
noncomputable def RV (Z:Nat->Prop) (h:Heap):V->Value->Prop
 | .none,x=>x=.none
 | .bool b,x=>x=.bool b
 | .int i,x=>∃t,x=.int i t
 | .str s,x=>∃t,x=.str (jn s) t
 | .ref a,x=>x=.ref a/\aR h a/\¬Z a
 | .tup l,x=>∃a xs n,x=.ref a/\h.get? a=some (uH xs n)/\¬Z a/\l.length<=aZ/\cx Z h l xs.toList
noncomputable def cx (Z:Nat->Prop) (h:Heap):List V->List Value->Prop
 |[],xs=>xs=[]
 |v::l,xs=>∃x ys,xs=x::ys/\RV Z h v x/\cx Z h l ys
end
section
variable {h : Heap} {x : Value} {l : List V} {xs : List Value} {v : V} {a : Nat}
theorem RV.none:RV Z h .none .none:=rfl
theorem RV.bool:RV Z h (.bool b) (.bool b):=rfl
theorem RV.int{i:Int}{t:Nat}:RV Z h (.int i) (.int i t):=⟨t,rfl⟩
theorem RV.str{t:Nat}:RV Z h (.str s) (.str (jn s) t):=⟨t,rfl⟩
theorem RV.ref(l:aR h a)(n:¬Z a):RV Z h (.ref a) (.ref a):=⟨rfl,l,n⟩
theorem RV.tup{xs:Array Value}(e:h.get? a=some (uH xs n))(q:¬Z a)(z:l.length<=aZ)(r:cx Z h l xs.toList):RV Z h (.tup l) (.ref a):=⟨a,xs,n,rfl,e,q,z,r⟩
theorem cx.nil:cx Z h [] []:=rfl
theorem cx.cons(r:RV Z h v x)(q:cx Z h l xs):cx Z h (v::l) (x::xs):=⟨x,xs,rfl,r,q⟩
theorem eI(r:RV Z h (.ref a) x):x=.ref a:=r.1
theorem rn(r:RV Z h (.int i) x):∃t,x=.int i t:=r
theorem lH(r:RV Z h (.bool b) x):x=.bool b:=r
theorem eX(r:RV Z h .none x):x=.none:=r
theorem cx.ind{P:List V->List Value->Prop}(nil:P [] [])(cons:∀{v x l xs},RV Z h v x->cx Z h l xs->P l xs->P (v::l) (x::xs))(r:cx Z h l xs):P l xs:=by
 induction l generalizing xs with
 |nil=>obtain rfl:=r;exact nil
 |cons v l ih=>refine fh r λ x ys ak bA=>?_;obtain rfl:=ak;refine bV bA λ a b=>?_;exact cons a b (ih b)
end
noncomputable def ru(o:Obj):Prop:=o.cls=.type "tuple"/\∃xs n,o.data=.seq xs n
theorem f6(xs:Array Value)(n:Nat):ru (uH xs n):=⟨rfl,xs,n,rfl⟩
structure gQ (Z:Nat->Prop) (h h':Heap):Prop where
 live:∀a,aR h a->¬Z a->aR h' a
 tup:∀a o,h.get? a=some o->ru o->¬Z a->h'.get? a=some o
structure dX (Z:Nat->Prop) (h h':Heap):Prop where
 live:∀a,aR h a->aR h' a
 tup:∀a o,h.get? a=some o->ru o->¬Z a->h'.get? a=some o
theorem dX.bx(g:dX Z h h'):gQ Z h h':=⟨λ a l u0=>g.live a l,g.tup⟩
theorem dX.refl(h:Heap):dX Z h h:=⟨λ u0=>id,λ u0 u0 e u0 u0=>e⟩
theorem dX.trans(x:dX Z a b)(y:dX Z b c):dX Z a c:=⟨λ a l=>y.live a (x.live a l),λ i o e t n=>y.tup i o (x.tup i o e t n) t n⟩
theorem dX.keeps(k:∀b o,h.get? b=some o->h'.get? b=some o):dX Z h h':=⟨λ a hP=>by obtain⟨o,e⟩:=hP;exact⟨o,k a o e⟩,λ u0 u0 e u0 u0=>k _ _ e⟩
mutual
theorem RV.bx {h h':Heap} (g:gQ Z h h'):∀{v x},RV Z h v x->RV Z h' v x
 | .none,_,r=>r
 | .bool _,_,r=>r
 | .int _,_,r=>r
 | .str _,_,r=>r
 | .ref _,_,r=>⟨r.1,g.live _ r.2.1 r.2.2,r.2.2⟩
 | .tup _,_,r=>r.imp λ u0 r=>r.imp λ u0 r=>r.imp λ u0 r=>⟨r.1,g.tup _ _ r.2.1 (f6 _ _) r.2.2.1,r.2.2.1,r.2.2.2.1,r.2.2.2.2.bx g⟩
theorem cx.bx {h h':Heap} (g:gQ Z h h'):∀{l xs},cx Z h l xs->cx Z h' l xs
 |[],_,r=>r
 |_::_,_,r=>r.imp λ u0 r=>r.imp λ u0 r=>⟨r.1,r.2.1.bx g,r.2.2.bx g⟩
end
theorem RV.grow(g:dX Z h h'){v x}(r:RV Z h v x):RV Z h' v x:=r.bx g.bx
theorem cx.grow(g:dX Z h h'){l xs}(r:cx Z h l xs):cx Z h' l xs:=r.bx g.bx
mutual
theorem RV.less {Z':Nat->Prop} {h:Heap} (q:∀a,Z a->aR h a->Z' a):∀{v x},RV Z' h v x->RV Z h v x
 | .none,_,r=>r
 | .bool _,_,r=>r
 | .int _,_,r=>r
 | .str _,_,r=>r
 | .ref _,_,r=>⟨r.1,r.2.1,λ y=>r.2.2 (q _ y r.2.1)⟩
 | .tup _,_,r=>r.imp λ u0 r=>r.imp λ u0 r=>r.imp λ u0 r=>⟨r.1,r.2.1,λ y=>r.2.2.1 (q _ y ⟨_,r.2.1⟩),r.2.2.2.1,r.2.2.2.2.less q⟩
theorem cx.less {Z':Nat->Prop} {h:Heap} (q:∀a,Z a->aR h a->Z' a):∀{l xs},cx Z' h l xs->cx Z h l xs
 |[],_,r=>r
 |_::_,_,r=>r.imp λ u0 r=>r.imp λ u0 r=>⟨r.1,r.2.1.less q,r.2.2.less q⟩
end
section
variable {h : Heap} {l m : List V} {xs ys : List Value} {v w u : V} {x : Value}
theorem cx.length(r:cx Z h l xs):l.length=xs.length:=r.ind (P:=λ l xs=>l.length=xs.length) rfl λ u0 u0 e=>congrArg (·+1) e
theorem cx.get(r:cx Z h l xs):∀{i:Nat} {v:V},l[i]?=some v->∃x,xs[i]?=some x/\RV Z h v x:=r.ind (P:=λ l xs=>∀{i:Nat} {v:V},l[i]?=some v->∃x,xs[i]?=some x/\RV Z h v x) (λ e=>nomatch e) λ{v x l xs} a u0 ih i w e=>by
 cases i with
 |zero=>exact⟨x,rfl,c8 e ▸ a⟩
 |succ i=>exact ih e
theorem cx.append(r:cx Z h l xs)(y:cx Z h m ys):cx Z h (l++m) (xs++ys):=r.ind (P:=λ l xs=>cx Z h (l++m) (xs++ys)) y λ a u0 b=> .cons a b
theorem cx.reverse(r:cx Z h l xs):cx Z h l.reverse xs.reverse:=r.ind (P:=λ l xs=>cx Z h l.reverse xs.reverse) .nil λ a u0 b=>by
 rw[List.reverse_cons,List.reverse_cons];exact b.append (.cons a .nil)
theorem cx.tail(r:cx Z h l xs):cx Z h l.tail xs.tail:=r.ind (P:=λ l xs=>cx Z h l.tail xs.tail) .nil λ u0 b u0=>b
theorem cx.take(r:cx Z h l xs):∀n:Nat,cx Z h (l.take n) (xs.take n):=r.ind (P:=λ l xs=>∀n:Nat,cx Z h (l.take n) (xs.take n)) (λ n=>by rw[List.take_nil,List.take_nil];exact .nil) λ a u0 b n=>by
 cases n with
 |zero=>exact .nil
 |succ n=>exact .cons a (b n)
theorem cx.dropLast(r:cx Z h l xs):cx Z h l.dropLast xs.dropLast:=by rw[List.dropLast_eq_take,List.dropLast_eq_take,←r.length];exact r.take _
theorem cx.set(r:cx Z h l xs)(i:Nat)(q:RV Z h v x):cx Z h (l.set i v) (xs.set i x):=r.ind (P:=λ l xs=>∀i,cx Z h (l.set i v) (xs.set i x)) (λ u0=> .nil) (λ a b ih i=>by
 cases i with
 |zero=>exact .cons q b
 |succ i=>exact .cons a (ih i)) i
theorem DI(r:cx Z h [v] xs):∃x,xs=[x]/\RV Z h v x:=by refine fh r λ x u0 ak bA=>?_;obtain rfl:=ak;refine bV bA λ a b=>?_;exact⟨x,congrArg (x::·) b,a⟩
theorem Jl(r:cx Z h [v,w] xs):∃x y,xs=[x,y]/\RV Z h v x/\RV Z h w y:=by refine fh r λ x u0 ak bA=>?_;obtain rfl:=ak;refine bV bA λ a b=>?_;refine aG (DI b) λ y f c=>?_;exact⟨x,y,congrArg (x::·) f,a,c⟩
theorem U1(r:cx Z h [v,w,u] xs):∃x y z,xs=[x,y,z]/\RV Z h v x/\RV Z h w y/\RV Z h u z:=by refine fh r λ x u0 ak bA=>?_;obtain rfl:=ak;refine bV bA λ a b=>?_;refine nQ (Jl b) λ y z f c d=>?_;exact⟨x,y,z,congrArg (x::·) f,a,c,d⟩
theorem ie(r:RV Z h (.tup l) x):∃a xs n,x=.ref a/\h.get? a=some (uH xs n)/\l.length<=aZ/\cx Z h l xs.toList/\xs.size=l.length:=
 r.imp λ u0 r=>r.imp λ xs r=>r.imp λ u0 r=>⟨r.1,r.2.1,r.2.2.2.1,r.2.2.2.2,(r.2.2.2.2.length.trans xs.length_toList).symm⟩
theorem N4(m:x∈xs)(r:cx Z h l xs):∃v∈l,RV Z h v x:=r.ind (P:=λ l xs=>x∈xs->∃v∈l,RV Z h v x) (λ m=>nomatch m) (λ{v y l ys} a u0 ih m=>by
 rcases ci m with rfl|m
 ·exact⟨v,.head _,a⟩
 ·refine aG (ih m) λ w hw q=>?_;exact⟨w,.tail _ hw,q⟩) m
end
theorem cx.replicate{v x}(r:RV Z h v x):∀n,cx Z h (List.replicate n v) (List.replicate n x):=by
 intro xR
 induction xR with
 |zero=>
  exact .nil
 |succ n aU=>
  exact .cons r (aU)
noncomputable def F8(n:Int):Value->Bool
 | .int m _=>m==n
 |_=>false
noncomputable def F9(x:Str):Value->Bool
 | .str y _=>y==x
 |_=>false
noncomputable def Nv:Ak->Value->Bool
 | .i n=>F8 n
 | .s x=>F9 (jn x)
theorem HB(h:F8 n v=true):∃t,v=.int n t:=by
 cases v with
 |int m t=>exact⟨t,congrArg (Value.int · t) (eq_of_beq h)⟩
 |_=>exact kK h
theorem yV(h:F9 x v=true):∃t,v=.str x t:=by
 cases v with
 |str m t=>exact⟨t,congrArg (Value.str · t) (eq_of_beq h)⟩
 |_=>exact kK h
theorem ff(h:Nv k v=true):(∃n t,k=.i n/\v=.int n t)\/(∃x t,k=.s x/\v=.str (jn x) t):=by
 cases k with
 |i n=>exact .inl ⟨n,(HB h).imp λ t e=>⟨rfl,e⟩⟩
 |s x=>exact .inr ⟨x,(yV h).imp λ t e=>⟨rfl,e⟩⟩
noncomputable def N5(w:World):Ak->Int
 | .i n=>hashInt n
 | .s x=>hashStr w (jn x)
set_option tactic.hygienic true in
noncomputable def AS (prog : Program) (w : World) : KeyKind prog w Ak where
  is := Nv
  hash := N5 w
  inj := λ v a b ha hb => by
    rcases ff ha with ⟨n, t, rfl, rfl⟩ | ⟨x, t, rfl, rfl⟩ <;> rcases ff hb with ⟨m, u, rfl, e⟩ | ⟨y, u, rfl, e⟩ <;> injection e
    · rename_i e _; rw [e]
    · rename_i e _; rw [wX e]
  byValue := λ k v h => by rcases ff h with ⟨n, t, rfl, rfl⟩ | ⟨x, t, rfl, rfl⟩ <;> rfl
  pyHash := λ hv h => by
    rcases ff hv with ⟨n, t, rfl, rfl⟩ | ⟨x, t, rfl, rfl⟩
    · exact wpAny_pyHash_int h
    · exact wpAny_pyHash_str h
  eqBool := λ {A E s a b u v Q} hu hv h => by
    rcases ff hu with ⟨n, t, rfl, rfl⟩ | ⟨x, t, rfl, rfl⟩ <;> rcases ff hv with ⟨m, u, rfl, rfl⟩ | ⟨y, u, rfl, rfl⟩
    · refine wpAny_eqBool_int ?_
      have e : (n == m) = decide (Ak.i n = Ak.i m) := by
        by_cases q : n = m
        · subst q; simp
        · rw [eY (λ e => q (by injection e)), beq_eq_false_iff_ne.mpr q]
      rw [e]; exact h
    · rw [eY (by intro e; injection e)] at h
      unfold PySem.eqBool
      rw [if_neg (by intro e; cases eq_of_beq e)]
      exact aq (PySem.EqMixed.eq_int_str (wpAny_truthy_bool h))
    · rw [eY (by intro e; injection e)] at h
      unfold PySem.eqBool
      rw [if_neg (by intro e; cases eq_of_beq e)]
      exact aq (PySem.EqMixed.eq_str_int (wpAny_truthy_bool h))
    · refine wpAny_eqBool_str ?_
      have e : decide (jn x = jn y) = decide (Ak.s x = Ak.s y) := by
        by_cases q : x = y
        · subst q; simp
        · rw [eY (λ e => q (wX e)), eY (λ e => q (by injection e))]
      rw [e]; exact h
  «strs» := λ k x t v h => by
    rcases ff h with ⟨n, u, rfl, e⟩ | ⟨y, u, rfl, e⟩
    · injection e
    · injection e with u1; subst u1; cases v <;> rfl
noncomputable abbrev lI(prog:Program)(w:World):HeapKind prog w (List Ak):=tupleKind (AS prog w)
variable {Z : Nat -> Prop}
structure Base where
 Z:Nat->Prop
 w:World
 prog:Program
 h₀:Heap
 K:PySem.W.Frag
 mg:Str->Option Value
 mb:Str->Option Value
 ca:Ab->Nat
 fa:Fn->Nat
 X:K.In h₀
 g:h₀.Ns mainGlobals mg
 b:h₀.Ns builtinsNs mb
 nolimit:h₀.NoLimit
 bt:∀x:Str,x≠"__name__"->mb x=bootBuiltins x
noncomputable def RL{α β:Type}(R:α->β->Prop):List α->List β->Prop
 |[],ys=>ys=[]
 |a::l,ys=>∃b r,ys=b::r/\R a b/\RL R l r
theorem RL.nil{α β:Type}{R:α->β->Prop}:RL R [] []:=rfl
theorem RL.cons{α β:Type}{R:α->β->Prop}{a:α}{b:β}{l:List α}{r:List β}(h:R a b)(t:RL R l r):RL R (a::l) (b::r):=⟨b,r,rfl,h,t⟩
theorem RL.ind{α β:Type}{R:α->β->Prop}{P:List α->List β->Prop}(nil:P [] [])(cons:∀{a b l r},R a b->RL R l r->P l r->P (a::l) (b::r)){l:List α}{ys:List β}(h:RL R l ys):P l ys:=by
 induction l generalizing ys with
 |nil=>obtain rfl:=h;exact nil
 |cons v l ih=>refine fh h λ x ys ak bA=>?_;obtain rfl:=ak;refine bV bA λ a b=>?_;exact cons a b (ih b)
theorem RL.imp{α β:Type}{R R':α->β->Prop}(f:∀{a b},R a b->R' a b){l:List α}{ys:List β}(h:RL R l ys):RL R' l ys:=h.ind (P:=RL R') .nil λ a u0 b=> .cons (f a) b
theorem RL.length{α β:Type}{R:α->β->Prop}{l:List α}{ys:List β}(h:RL R l ys):ys.length=l.length:=RL.ind (P:=λ(l:List α) (ys:List β)=>ys.length=l.length) rfl (λ u0 u0 e=>congrArg (·+1) e) h
noncomputable def RK(Z:Nat->Prop)(h:Heap):List (Int×V)->List (Int×Value)->Prop:=RL λ p q=>q.1=p.1/\RV Z h p.2 q.2
noncomputable def RT(Z:Nat->Prop)(h:Heap):List (List Ak×V)->List (List Ak×Addr×Value)->Prop:=RL λ p q=>q.1=p.1/\¬Z q.2.1/\RV Z h p.2 q.2.2
noncomputable def RF(Z:Nat->Prop)(h:Heap):List (At×V)->List DictEntry->Prop:=RL λ p q=>(∃t,q.key=.str (gz p.1) t)/\RV Z h p.2 q.val
section
variable {h h' : Heap} {x : Value} {v : V}
theorem RK.nil:RK Z h [] []:=rfl
theorem RT.nil:RT Z h [] []:=rfl
theorem RF.nil:RF Z h [] []:=rfl
theorem RK.cons(r:RV Z h v x)(q:RK Z h es bY):RK Z h ((k,v)::es) ((k,x)::bY):=RL.cons ⟨rfl,r⟩ q
theorem RF.cons{hs:Int}{t:Nat}(r:RV Z h v x)(q:RF Z h fs es):RF Z h ((k,v)::fs) (⟨hs,.str (gz k) t,x⟩::es):=RL.cons ⟨⟨t,rfl⟩,r⟩ q
theorem RK.bx(g:gQ Z h h')(r:RK Z h es bY):RK Z h' es bY:=RL.imp (λ r=>⟨r.1,r.2.bx g⟩) r
theorem RT.bx(g:gQ Z h h')(r:RT Z h es bY):RT Z h' es bY:=RL.imp (λ r=>⟨r.1,r.2.1,r.2.2.bx g⟩) r
theorem RF.bx(g:gQ Z h h')(r:RF Z h es bY):RF Z h' es bY:=RL.imp (λ r=>⟨r.1,r.2.bx g⟩) r
theorem RK.grow(g:dX Z h h'){es bY}(r:RK Z h es bY):RK Z h' es bY:=r.bx g.bx
theorem RT.grow(g:dX Z h h'){es bY}(r:RT Z h es bY):RT Z h' es bY:=r.bx g.bx
theorem RF.grow(g:dX Z h h'){es bY}(r:RF Z h es bY):RF Z h' es bY:=r.bx g.bx
theorem RT.Nw(r:RT Z h es bY):∀p∈bY,¬Z p.2.1:=RL.ind (P:=λ u0 bY=>∀p∈bY,¬Z p.2.1) (λ u0 hp=>nomatch hp) (λ a u0 ih p hp=>by
 rcases ci hp with rfl|hp
 ·exact a.2.1
 ·exact ih p hp) r
end
noncomputable def RO(B:Base)(h:Heap)(a:Nat):O->Prop
 | .list l=>∃xs n,h.get? a=some (dF xs n)/\l.length<=aZ/\cx B.Z h l xs.toList
 | .ao es=>∃bY,h.DictOf (intKind B.prog B.w) a bY/\RK B.Z h es bY
 | .b9 es=>∃xs,h.DictOfH (lI B.prog B.w) a xs/\RT B.Z h es xs
 | .inst c fs=>∃dx es n,h.get? a=some (PySem.W.instObj (B.ca c) dx)/\h.get? dx=some (iN es.toArray n)/\RF B.Z h fs es/\fs.length<=100/\∀p∈fs,eW c p.1=none
section
variable {B : Base} {h : Heap} {a : Nat}
theorem RO.list(e:h.get? a=some (dF xs n))(z:l.length<=aZ)(r:cx B.Z h l xs.toList):RO B h a (.list l):=⟨xs,n,e,z,r⟩
theorem RO.ao(e:h.DictOf (intKind B.prog B.w) a bY)(r:RK B.Z h es bY):RO B h a (.ao es):=⟨bY,e,r⟩
theorem RO.b9(e:h.DictOfH (lI B.prog B.w) a xs)(r:RT B.Z h es xs):RO B h a (.b9 es):=⟨xs,e,r⟩
theorem RO.inst{dx n:Nat}(e:h.get? a=some (PySem.W.instObj (B.ca c) dx))(f:h.get? dx=some (iN es.toArray n))(r:RF B.Z h fs es)(z:fs.length<=100)(m:∀p∈fs,eW c p.1=none):RO B h a (.inst c fs):=⟨dx,es,n,e,f,r,z,m⟩
end
noncomputable def aH(h:Heap)(a:Nat):Option Nat:=(h.get? a).bind (·.dict)
noncomputable def bK(H:H)(a:Nat):Prop:=∃c fs,H a=some (.inst c fs)
noncomputable def j5(H:H)(h:Heap)(b:Nat):Prop:=(∃o,H b=some o)\/∃a,bK H a/\aH h a=some b
structure Rel (B:Base) (H:H) (h:Heap):Prop where
 base:∀b o,B.h₀.get? b=some o->h.get? b=some o
 zl:∀a,B.Z a->aR h a/\¬aR B.h₀ a
 obj:∀a o,H a=some o->(¬aR B.h₀ a/\3<a)/\RO B h a o
 sep:∀a a' d,bK H a->bK H a'->aH h a=some d->aH h a'=some d->a=a'
 mH:∀a d,bK H a->aH h a=some d->H d=none/\¬aR B.h₀ d
noncomputable abbrev bH:Nat->Prop:=λ u0=>False
structure Step (Z:Nat->Prop) (F:Nat->Prop) (ro:Bool) (H:H) (s:Shared) (H':Mine.H) (s':Shared):Prop where
 same:∃h' tk,s'={s with heap:=h',toks:=tk}
 grow:dX Z s.heap s'.heap
 keep:∀b o,s.heap.get? b=some o->¬j5 H s.heap b->¬F b->s'.heap.get? b=some o
 rH:∀a o,H' a=some o->aR s.heap a->∃o',H a=some o'
 mI:∀a d,bK H' a->aH s'.heap a=some d->aR s.heap d->bK H a/\aH s.heap a=some d
 ro:ro=true->∀a O o,H a=some O->s.heap.get? a=some o->o.cls=.type "dict"->s'.heap.get? a=some o
 fr:∀a O,H a=some O->¬F a
 cls:∀a O o,H a=some O->s.heap.get? a=some o->∃o',s'.heap.get? a=some o'/\o'.cls=o.cls
theorem Step.live{F ro H s H' s'}(x:Step Z F ro H s H' s'):∀a,aR s.heap a->aR s'.heap a:=x.grow.live
theorem Step.own{F ro H s H' s'}(x:Step Z F ro H s H' s')(o:j5 H' s'.heap b)(hb:aR s.heap b):j5 H s.heap b:=by
 rcases o with⟨o,e⟩|⟨a,i,d⟩
 ·exact .inl (x.rH b o e hb)
 ·exact .inr ⟨a,x.mI a b i d hb⟩
theorem Step.refl(ro:Bool)(H:H)(s:Shared):Step Z bH ro H s H s:=
 ⟨⟨s.heap,s.toks,rfl⟩,.refl _,λ u0 u0 e u0 u0=>e,λ a o e u0=>⟨o,e⟩,λ a d i e u0=>⟨i,e⟩,λ u0 u0 u0 u0 u0 e u0=>e,λ u0 u0 u0=>id,λ u0 u0 o u0 e=>⟨o,e,rfl⟩⟩
theorem Step.tok(ro:Bool)(H:H)(s:Shared)(t:Nat):Step Z bH ro H s H {s with toks:=t}:=
 ⟨⟨s.heap,t,rfl⟩,.refl _,λ u0 u0 e u0 u0=>e,λ a o e u0=>⟨o,e⟩,λ a d i e u0=>⟨i,e⟩,λ u0 u0 u0 u0 u0 e u0=>e,λ u0 u0 u0=>id,λ u0 u0 o u0 e=>⟨o,e,rfl⟩⟩
theorem Step.P'{F:Nat->Prop}{H:H}{H' s'}(R:Rel B H s.heap)(x:Step B.Z F r H s H' s'){O:Mine.O}(e:H a=some O)(eo:s.heap.get? a=some o)(q:H' a=none):¬j5 H' s'.heap a:=by
 rintro(⟨O',q'⟩|⟨a',i,d⟩)
 ·rw[q] at q';exact dD q'
 ·refine bV (x.mI a' a i d ⟨_,eo⟩) λ i' d'=>?_
  have:=(R.mH a' a i' d').1
  rw[e] at this;exact AB this
theorem Step.trans{F:Nat->Prop}{H:H}{H' s' nR oB}(R:Rel B H s.heap)(x:Step B.Z F r H s H' s')(y:Step B.Z F r' H' s' nR oB):Step B.Z F (r&&r') H s nR oB where
 same:=by
  refine gN x.same λ h t ak=>?_;obtain rfl:=ak
  refine gN y.same λ h2 t2 ak=>?_;obtain rfl:=ak
  exact⟨h2,t2,rfl⟩
 grow:=x.grow.trans y.grow
 keep:=λ b o e n f=>y.keep b o (x.keep b o e n f) (λ q=>n (x.own q ⟨_,e⟩)) f
 rH:=λ a o e hs=>by refine aK (y.rH a o e (x.live _ hs)) λ o' e'=>?_;exact x.rH a o' e' hs
 mI:=λ a d i e hs=>by refine bV (y.mI a d i e (x.live _ hs)) λ i' e'=>?_;exact x.mI a d i' e' hs
 ro:=λ hr a O o e eo hc=>by
  refine bV (Bool.and_eq_true_iff.mp hr) λ h1 h2=>?_
  have e1:=x.ro h1 a O o e eo hc
  cases q:H' a with
  |some O'=>exact y.ro h2 a O' o q e1 hc
  |none=>exact y.keep a o e1 (x.P' R e eo q) (x.fr a O e)
 fr:=x.fr
 cls:=λ a O o e eo=>by
  refine aG (x.cls a O o e eo) λ o1 e1 c1=>?_
  cases q:H' a with
  |some O'=>refine aG (y.cls a O' o1 q e1) λ o2 e2 c2=>?_;exact⟨o2,e2,c2.trans c1⟩
  |none=>exact⟨o1,y.keep a o1 e1 (x.P' R e eo q) (x.fr a O e),c1⟩
theorem Step.weaken{F:Nat->Prop}{H:H}{s H' s'}(x:Step Z F r H s H' s')(h:r'=true->r=true):Step Z F r' H s H' s':={x with ro:=λ q=>x.ro (h q)}
theorem Step.within{F F':Nat->Prop}{H:H}{s H' s'}(x:Step Z F r H s H' s')(h:∀b,aR s.heap b->F b->F' b)(hn:∀a O,H a=some O->¬F' a):Step Z F' r H s H' s':=
 {x with keep:=λ b o e n f=>x.keep b o e n λ q=>f (h b ⟨_,e⟩ q),fr:=hn}
theorem Ki:("list":String)≠"tuple":=by decide
theorem wY:("dict":String)≠"tuple":=by decide
theorem sz(n:T≠"tuple")(c:o.cls=.type T)(q:ru o):False:=n (by have:=c.symm.trans q.1;injection this)
theorem RO.cls{O:O}(r:RO B h a O):∃o,h.get? a=some o/\¬ru o:=by
 cases O with
 |list l=>refine fh r λ u0 u0 e u0=>?_;exact⟨_,e,λ q=>sz Ki rfl q⟩
 |ao l=>refine aG r λ u0 ak u0=>?_;refine wu ak λ o u0 u0 e x u0=>?_;exact⟨o,e,λ q=>sz wY x.1 q⟩
 |b9 l=>refine aG r λ u0 ak u0=>?_;refine wu ak λ o u0 u0 e x u0=>?_;exact⟨o,e,λ q=>sz wY x.1 q⟩
 |inst c fs=>refine im r λ u0 u0 u0 e u0=>?_;exact⟨_,e,λ q=>nomatch q.1⟩
theorem Rel.lt{H:H}(R:Rel B H h){O:O}(e:H a=some O):aR h a:=by refine aG ((R.obj a O e).2.cls) λ o e u0=>?_;exact⟨o,e⟩
theorem Rel.fresh{B:Base}{H:H}{h:Heap}(R:Rel B H h){a:Nat}(ha:¬aR h a):H a=none:=by
 cases e:H a with
 |none=>rfl
 |some O=>exact absurd (R.lt e) ha
theorem Rel.fF{H:H}(R:Rel B H h)(i:bK H a):∃c dx es n,h.get? a=some (PySem.W.instObj (B.ca c) dx)/\h.get? dx=some (iN es n)/\aH h a=some dx:=by
 refine gN i λ c fs e=>?_
 refine wu ((R.obj a _ e).2) λ dx es n e1 e2 u0=>?_
 exact⟨c,dx,_,_,e1,e2,by unfold aH;rw[e1];rfl⟩
theorem Rel.GF{H:H}(R:Rel B H h)(o:j5 H h b):aR h b/\¬aR B.h₀ b:=by
 rcases o with⟨o,e⟩|⟨a,i,d⟩
 ·exact⟨R.lt e,(R.obj _ _ e).1.1⟩
 ·refine DK (R.fF i) λ c dx es n e1 e2 e3=>?_
  rw[e3] at d;obtain rfl:=c8 d
  exact⟨⟨_,e2⟩,(R.mH _ _ i e3).2⟩
theorem Rel.vh{H:H}(R:Rel B H h)(q:j5 H h b)(e:h.get? b=some o):¬ru o:=by
 rcases q with⟨O,e'⟩|⟨a,i,d⟩
 ·refine aG ((R.obj _ _ e').2.cls) λ o' e1 c=>?_
  rw[e] at e1;obtain rfl:=c8 e1;exact c
 ·refine DK (R.fF i) λ c dx es n e1 e2 e3=>?_
  rw[e3] at d;obtain rfl:=c8 d
  rw[e] at e2;obtain rfl:=c8 e2;exact λ q=>sz wY rfl q
theorem RO.mP{O:O}(r:RO B h a O)(hd:aH h a=some d):
  ∃c fs es n,O=.inst c fs/\h.get? a=some (PySem.W.instObj (B.ca c) d)/\h.get? d=some (iN es.toArray n)/\RF B.Z h fs es:=by
 unfold aH at hd
 cases O with
 |inst c fs=>refine Vk r λ dx es n e1 e2 l u0=>?_;rw[e1] at hd;obtain rfl:=c8 hd;exact⟨_,_,_,_,rfl,e1,e2,l⟩
 |list l=>refine fh r λ u0 u0 e1 u0=>?_;rw[e1] at hd;exact dD hd
 |ao l=>refine aG r λ u0 ak u0=>?_;refine wu ak λ o u0 u0 e1 x u0=>?_;rw[e1] at hd;exact nomatch x.2.1.symm.trans hd
 |b9 l=>refine aG r λ u0 ak u0=>?_;refine wu ak λ o u0 u0 e1 x u0=>?_;rw[e1] at hd;exact nomatch x.2.1.symm.trans hd
theorem RO.kept{O:O}(r:RO B h a O)(g:gQ B.Z h h')(k:h'.get? a=h.get? a)(kd:∀d,aH h a=some d->h'.get? d=h.get? d)
  :RO B h' a O:=by
 cases O with
 |list _=>refine nQ r λ u0 u0 e z l=>?_;exact .list (k.trans e) z (l.bx g)
 |ao _=>refine aG r λ u0 ak l=>?_;refine im ak λ o es ep e x=>?_;exact .ao ⟨o,es,ep,k.trans e,x⟩ (l.bx g)
 |b9 _=>
  refine aG r λ u0 ak l=>?_;refine RX ak λ o es ep e x y z q nd=>?_
  refine .b9 ⟨o,es,ep,k.trans e,x,y,z,λ p hp=>?_,nd⟩ (l.bx g)
  refine wu (q p hp) λ o' items n e1 c r=>?_
  exact⟨o',items,n,g.tup _ _ e1 ⟨c,items,n,r.1⟩ (l.Nw p hp),c,r⟩
 |inst _ _=>refine CH r λ u0 u0 u0 e e2 l z y=>?_;exact .inst (k.trans e) ((kd _ (by unfold aH;rw[e];rfl)).trans e2) (l.bx g) z y
theorem Rel.quiet{H:H}(R:Rel B H s.heap)(k:∀b o,s.heap.get? b=some o->h'.get? b=some o):
  Rel B H h'/\Step B.Z bH true H s H {s with heap:=h',toks:=tk}:=by
 have g:dX B.Z s.heap h':=dX.keeps k
 have kd:∀a,bK H a->aH h' a=aH s.heap a:=λ a i=>by
  refine DK (R.fF i) λ c dx es n e1 u0 u0=>?_
  unfold aH;rw[e1,k _ _ e1]
 have Ah:∀a O,H a=some O->h'.get? a=s.heap.get? a:=λ a O e=>by
  refine aG ((R.obj a O e).2.cls) λ o e1 u0=>?_
  rw[e1];exact k _ _ e1
 refine⟨⟨λ b o e=>k _ _ (R.base b o e),λ a z=>⟨g.live a (R.zl a z).1,(R.zl a z).2⟩,λ a O e=>⟨(R.obj a O e).1,(R.obj a O e).2.kept g.bx (Ah a O e) (λ d hd=>?_)⟩,
  λ a a' d i i' e e'=>R.sep a a' d i i' (kd a i ▸ e) (kd a' i' ▸ e'),λ a d i e=>R.mH a d i (kd a i ▸ e)⟩,
  ⟨h',tk,rfl⟩,g,λ b o e u0 u0=>k b o e,λ a o e u0=>⟨o,e⟩,λ a d i e u0=>⟨i,kd a i ▸ e⟩,λ u0 u0 u0 u0 u0 e u0=>k _ _ e,λ u0 u0 u0=>id,λ u0 u0 o u0 e=>⟨o,k _ _ e,rfl⟩⟩
 refine Vm ((R.obj a O e).2.mP hd) λ c fs es n u0 u0 e2 u0=>?_
 rw[e2];exact k _ _ e2
theorem Rel.new{H:H}{h h':Heap}(R:Rel B H h)(k:∀b o,h.get? b=some o->h'.get? b=some o)(ha:h'.objs.size<=a):¬aR h a/\3<a:=
 ⟨λ hP=>by refine aK hP λ o e=>?_;exact bW ha ⟨o,k _ _ e⟩,by
  refine im B.g λ o u0 u0 e u0=>?_
  exact kI (iI (k _ _ (R.base _ _ e))) ha⟩
theorem Rel.rI{H:H}(R:Rel B H h)(ha:h.objs.size<=a):¬aR h a/\3<a:=R.new (λ u0 u0 e=>e) ha
theorem Rel.ql{H:H}(R:Rel B H h)(ha:¬aR h a):¬B.Z a:=λ q=>ha (R.zl a q).1
theorem Rel.alloc{B:Base}{H:H}{s:Shared}{h':Heap}{tk a:Nat}{O:O}(R:Rel B H s.heap)(k:∀b o,s.heap.get? b=some o->h'.get? b=some o)
  (hA:¬aR s.heap a/\3<a)(r:RO B h' a O)(hd:∀d,aH h' a=some d->¬aR s.heap d/\d≠a):
  H a=none/\Rel B (aC H a O) h'/\Step B.Z bH true H s (aC H a O) {s with heap:=h',toks:=tk}:=by
 have ha:=hA.1
 refine bV (R.quiet (tk:=tk) k) λ R' S=>?_
 have hn:=R.fresh ha
 have ne:∀b,(∃o,H b=some o)->b≠a:=λ b hP q=>by refine aK hP λ o e=>?_;rw[q,hn] at e;exact dD e
 have up:∀b,b≠a->aC H a O b=H b:=λ b h=>if_neg h
 have iu:∀b,bK (aC H a O) b->(b=a)\/(b≠a/\bK H b):=λ b hP=>by
  refine gN hP λ c fs e=>?_
  by_cases q:b=a
  ·exact .inl q
  ·exact .inr ⟨q,c,fs,(up b q) ▸ e⟩
 have DR:∀b d,bK H b->aH h' b=some d->aR s.heap d:=λ b d i e=>by
  have:=S.mI b d i e
  refine DK (R.fF i) λ c dx es n e1 e2 e3=>?_
  have e4:aH h' b=some dx:=by unfold aH;rw[k _ _ e1];rfl
  rw[e4] at e;obtain rfl:=c8 e
  exact⟨_,e2⟩
 refine⟨hn,⟨R'.base,R'.zl,λ b o e=>?_,λ b b' d i i' e e'=>?_,λ b d i e=>?_⟩,S.same,S.grow,S.keep,λ b o e hb=>?_,λ b d i e hb=>?_,S.ro,λ u0 u0 u0=>id,S.cls⟩
 ·by_cases q:b=a
  ·subst q
   unfold aC at e;rw[if_pos rfl] at e;obtain rfl:=c8 e
   exact⟨⟨λ hP=>by refine aK hP λ o q=>?_;exact ha ⟨o,R.base _ _ q⟩,hA.2⟩,r⟩
  ·rw[up b q] at e;exact R'.obj b o e
 ·rcases iu b i with rfl|⟨q,j⟩<;>rcases iu b' i' with rfl|⟨q',j'⟩
  ·rfl
  ·exact absurd (DR _ _ j' e') (hd _ e).1
  ·exact absurd (DR _ _ j e) (hd _ e').1
  ·exact R'.sep b b' d j j' e e'
 ·rcases iu b i with rfl|⟨q,j⟩
  ·exact⟨by rw[up d (hd d e).2];exact R.fresh (hd d e).1,λ hP=>by refine aK hP λ o q=>?_;exact(hd d e).1 ⟨o,R.base _ _ q⟩⟩
  ·have:=R'.mH b d j e
   have l:=DR b d j e
   exact⟨by rw[up d (λ q=>ha (q ▸ l))];exact this.1,this.2⟩
 ·rw[up b (λ q=>ha (q ▸ hb))] at e;exact⟨o,e⟩
 ·rcases iu b i with rfl|⟨q,j⟩
  ·exact absurd hb (hd d e).1
  ·exact S.mI b d j e hb
theorem Rel.write{H:H}{O O':Mine.O}(R:Rel B H s.heap)(e:H a=some O)(VR:¬bK H a)(U2:¬bK (aC H a O') a)
  (ho:s.heap.get? a=some ob)(Sp:h'.get? a=some Pa)(hc:Pa.cls=ob.cls)(hs:Heap.SameBut a s.heap h')
  (r:dX B.Z s.heap h'->RO B h' a O')(hl:ob.cls≠.type "dict"\/ro=false):
  Rel B (aC H a O') h'/\Step B.Z bH ro H s (aC H a O') {s with heap:=h',toks:=tk}:=by
 have Tn:¬ru ob:=R.vh (.inl ⟨O,e⟩) ho
 have up:∀b,b≠a->aC H a O' b=H b:=λ b h=>if_neg h
 have g:dX B.Z s.heap h':=⟨λ b hP=>by
   refine aK hP λ o eb=>?_
   by_cases q:b=a
   ·exact q ▸ ⟨_,Sp⟩
   ·exact⟨o,(hs.2 b q).trans eb⟩,λ b o eb t u0=>by
   by_cases q:b=a
   ·subst q;rw[ho] at eb;obtain rfl:=c8 eb;exact absurd t Tn
   ·exact(hs.2 b q).trans eb⟩
 have iu:∀b,bK (aC H a O') b->b≠a/\bK H b:=λ b i=>by
  by_cases q:b=a
  ·subst q;exact absurd i U2
  ·refine gN i λ c fs eb=>?_;exact⟨q,c,fs,(up b q) ▸ eb⟩
 have da:∀b,b≠a->aH h' b=aH s.heap b:=λ b q=>by unfold aH;rw[hs.2 b q]
 have nd:∀b d,bK H b->aH s.heap b=some d->d≠a:=λ b d i ed q=>by
  have:=(R.mH b d i ed).1
  rw[q,e] at this;exact AB this
 refine⟨⟨λ b o eb=>?_,λ a z=>⟨g.live a (R.zl a z).1,(R.zl a z).2⟩,λ b o eb=>?_,λ b b' d i i' ed OF=>?_,λ b d i ed=>?_⟩,⟨h',tk,rfl⟩,g,λ b o eb n u0=>?_,λ b o eb hb=>?_,λ b d i ed hb=>?_,λ hr b FE o eb eo OG=>?_,λ u0 u0 u0=>id,λ b FE o eb eo=>?_⟩
 ·have q2:=(R.obj a O e).1.1
  exact(hs.2 b (λ q=>q2 (q ▸ ⟨_,eb⟩))).trans (R.base b o eb)
 ·by_cases q:b=a
  ·subst q
   unfold aC at eb;rw[if_pos rfl] at eb;obtain rfl:=c8 eb
   exact⟨(R.obj b O e).1,r g⟩
  ·rw[up b q] at eb
   refine⟨(R.obj b o eb).1,(R.obj b o eb).2.kept g.bx (hs.2 b q) (λ d hd=>hs.2 d ?_)⟩
   refine E7 ((R.obj b o eb).2.mP hd) λ c fs es n ak u0=>?_;obtain rfl:=ak
   exact nd b d ⟨c,fs,eb⟩ hd
 ·exact R.sep b b' d (iu b i).2 (iu b' i').2 (da b (iu b i).1 ▸ ed) (da b' (iu b' i').1 ▸ OF)
 ·have OF:=da b (iu b i).1 ▸ ed
  have:=R.mH b d (iu b i).2 OF
  exact⟨by rw[up d (nd b d (iu b i).2 OF)];exact this.1,this.2⟩
 ·exact(hs.2 b λ q=>n (q ▸.inl ⟨O,e⟩)).trans eb
 ·by_cases q:b=a
  ·exact q ▸ ⟨O,e⟩
  ·rw[up b q] at eb;exact⟨o,eb⟩
 ·exact⟨(iu b i).2,da b (iu b i).1 ▸ ed⟩
 ·by_cases q:b=a
  ·subst q
   rw[ho] at eo;obtain rfl:=c8 eo
   rcases hl with hl|hl
   ·exact absurd OG hl
   ·rw[hl] at hr;exact kK hr
  ·exact(hs.2 b q).trans eo
 ·by_cases q:b=a
  ·subst q;rw[ho] at eo;obtain rfl:=c8 eo;exact⟨Pa,Sp,hc⟩
  ·exact⟨o,(hs.2 b q).trans eo,rfl⟩
theorem Rel.N6{ro:Bool}{B:Base}{H:H}{s:Shared}{h':Heap}{tk a dx:Nat}{c:Ab}{fs MT:List (At×V)}{es tX:List DictEntry}{n n':Nat}(R:Rel B H s.heap)(e:H a=some (.inst c fs))
  (ho:s.heap.get? a=some (PySem.W.instObj (B.ca c) dx))(hx:s.heap.get? dx=some (iN es.toArray n))(MU:h'.get? dx=some (iN tX.toArray n'))(hs:Heap.SameBut dx s.heap h')
  (r:dX B.Z s.heap h'->RF B.Z h' MT tX)(hz:MT.length<=100)(Xu:∀p∈MT,eW c p.1=none):
  Rel B (aC H a (.inst c MT)) h'/\Step B.Z bH ro H s (aC H a (.inst c MT)) {s with heap:=h',toks:=tk}:=by
 have ia:bK H a:=⟨c,fs,e⟩
 have dd:aH s.heap a=some dx:=by unfold aH;rw[ho];rfl
 have To:=(R.mH a dx ia dd).1
 have Xv:a≠dx:=λ q=>by rw[←q,e] at To;exact AB To
 have up:∀b,b≠a->aC H a (.inst c MT) b=H b:=λ b h=>if_neg h
 have g:dX B.Z s.heap h':=⟨λ b hP=>by
   refine aK hP λ o eb=>?_
   by_cases q:b=dx
   ·exact q ▸ ⟨_,MU⟩
   ·exact⟨o,(hs.2 b q).trans eb⟩,λ b o eb t u0=>by
   by_cases q:b=dx
   ·subst q;rw[hx] at eb;obtain rfl:=c8 eb;refine bV t λ t u0=>?_;injection t with t;exact absurd t (by decide)
   ·exact(hs.2 b q).trans eb⟩
 have iu:∀b,bK (aC H a (.inst c MT)) b->bK H b:=λ b i=>by
  by_cases q:b=a
  ·subst q;exact ia
  ·refine gN i λ c fs eb=>?_;exact⟨c,fs,(up b q) ▸ eb⟩
 have nx:∀b O,H b=some O->b≠dx:=λ b O eb q=>by rw[q,To] at eb;exact dD eb
 have Xw:∀b,bK H b->b≠dx:=λ b hP=>by refine gN hP λ c fs eb=>?_;exact nx b _ eb
 have da:∀b,bK H b->aH h' b=aH s.heap b:=λ b i=>by unfold aH;rw[hs.2 b (Xw b i)]
 refine⟨⟨λ b o eb=>?_,λ a z=>⟨g.live a (R.zl a z).1,(R.zl a z).2⟩,λ b o eb=>?_,λ b b' d i i' ed OF=>?_,λ b d i ed=>?_⟩,⟨h',tk,rfl⟩,g,λ b o eb n u0=>?_,λ b o eb hb=>?_,λ b d i ed hb=>?_,λ hr b FE o eb eo OG=>?_,λ u0 u0 u0=>id,λ b FE o eb eo=>?_⟩
 ·have q2:=(R.mH a dx ia dd).2
  exact(hs.2 b (λ q=>q2 (q ▸ ⟨_,eb⟩))).trans (R.base b o eb)
 ·by_cases q:b=a
  ·subst q
   unfold aC at eb;rw[if_pos rfl] at eb;obtain rfl:=c8 eb
   exact⟨(R.obj b _ e).1,.inst ((hs.2 b Xv).trans ho) MU (r g) hz Xu⟩
  ·rw[up b q] at eb
   refine⟨(R.obj b o eb).1,(R.obj b o eb).2.kept g.bx (hs.2 b (nx b o eb)) (λ d hd=>hs.2 d λ q'=>?_)⟩
   refine E7 ((R.obj b o eb).2.mP hd) λ c fs es n ak u0=>?_;obtain rfl:=ak
   exact q (R.sep b a dx ⟨c,fs,eb⟩ ia (q' ▸ hd) dd)
 ·exact R.sep b b' d (iu b i) (iu b' i') (da b (iu b i) ▸ ed) (da b' (iu b' i') ▸ OF)
 ·have:=R.mH b d (iu b i) (da b (iu b i) ▸ ed)
  refine⟨?_,this.2⟩
  rw[up d (λ q=>by rw[q,e] at this;cases this.1)];exact this.1
 ·exact(hs.2 b λ q=>n (q ▸.inr ⟨a,ia,dd⟩)).trans eb
 ·by_cases q:b=a
  ·exact q ▸ ⟨_,e⟩
  ·rw[up b q] at eb;exact⟨o,eb⟩
 ·exact⟨iu b i,da b (iu b i) ▸ ed⟩
 ·exact(hs.2 b (nx b FE eb)).trans eo
 ·exact⟨o,(hs.2 b (nx b FE eb)).trans eo,rfl⟩
theorem Rel.Mr{F:Nat->Prop}{H:H}(R:Rel B H s.heap)(hF:F a)(Sv:∀a O,H a=some O->¬F a)(no:¬j5 H s.heap a)(hb:¬aR B.h₀ a)
  (Tn:∀o,s.heap.get? a=some o->¬ru o)
  (hz:aR h' a)(hs:∀b o,b≠a->s.heap.get? b=some o->h'.get? b=some o):
  Rel B H h'/\Step B.Z F true H s H {s with heap:=h',toks:=tk}:=by
 have g:dX B.Z s.heap h':=⟨λ b hP=>by
   refine aK hP λ o eb=>?_
   by_cases q:b=a
   ·exact q ▸ hz
   ·exact⟨o,hs b o q eb⟩,λ b o eb t u0=>by
   by_cases q:b=a
   ·subst q;exact absurd t (Tn o eb)
   ·exact hs b _ q eb⟩
 have ne:∀b,j5 H s.heap b->b≠a:=λ b o q=>no (q ▸ o)
 have Ah:∀b,j5 H s.heap b->h'.get? b=s.heap.get? b:=λ b q=>by
  rcases q with⟨O,e⟩|⟨b',i,d⟩
  ·refine aG ((R.obj b O e).2.cls) λ o e1 u0=>?_
   rw[e1];exact hs _ _ (ne b (.inl ⟨O,e⟩)) e1
  ·refine DK (R.fF i) λ c dx es n e1 e2 e3=>?_
   rw[e3] at d;obtain rfl:=c8 d
   rw[e2];exact hs _ _ (ne _ (.inr ⟨b',i,e3⟩)) e2
 have kd:∀b,bK H b->aH h' b=aH s.heap b:=λ b hP=>by refine gN hP λ c fs e=>?_;unfold aH;rw[Ah b (.inl ⟨_,e⟩)]
 refine⟨⟨λ b o e=>hs b o (λ q=>?_) (R.base b o e),λ a z=>⟨g.live a (R.zl a z).1,(R.zl a z).2⟩,λ b O e=>⟨(R.obj b O e).1,(R.obj b O e).2.kept g.bx (Ah b (.inl ⟨O,e⟩)) (λ d hd=>?_)⟩,
  λ b b' d i i' e e'=>R.sep b b' d i i' (kd b i ▸ e) (kd b' i' ▸ e'),λ b d i e=>R.mH b d i (kd b i ▸ e)⟩,
  ⟨h',tk,rfl⟩,g,λ b o e u0 f=>hs b o (λ q=>f (q ▸ hF)) e,λ a o e u0=>⟨o,e⟩,λ b d i e u0=>⟨i,kd b i ▸ e⟩,λ u0 b O o e eo u0=>?_,Sv,λ b O o e eo=>⟨o,(Ah b (.inl ⟨O,e⟩)).trans eo,rfl⟩⟩
 ·exact hb (q ▸ ⟨_,e⟩)
 ·refine E7 ((R.obj b O e).2.mP hd) λ c fs es n ak u0=>?_;obtain rfl:=ak
  exact Ah d (.inr ⟨b,⟨c,fs,e⟩,hd⟩)
 ·exact(Ah b (.inl ⟨O,e⟩)).trans eo
noncomputable abbrev fS:=List (Str×Nat)
noncomputable def FA(env:Env)(b:Nat):Prop:=b=env.locals\/∃x,env.cells.lookup x=some b
structure eD (B:Base) (H:H) (h:Heap) (env:Env) (ρ:fS) (fr:Mine.Fr):Prop where
 fk:env.scope.kind=.function
 gl:env.globals=mainGlobals
 bl:env.builtins=builtinsNs
 ns:∃m,h.Ns env.locals m/\∀x i v,ρ.lookup x=some i->env.kindOf x=some .local->fr[i]?=some (some v)->∃y,m x=some y/\RV B.Z h v y
 ce:∀x i,ρ.lookup x=some i->env.kindOf x=some .cell->∃c vo,env.cells.lookup x=some c/\h.IsCell c vo/\∀v,fr[i]?=some (some v)->∃y,vo=some y/\RV B.Z h v y
 ap:∀x x' c,env.cells.lookup x=some c->env.cells.lookup x'=some c->x=x'
 ow:∀b,FA env b->aR h b/\¬j5 H h b/\¬aR B.h₀ b
 cl:∀x,env.cells.lookup x≠some env.locals
 cc:∀x c,env.cells.lookup x=some c->∃vo,h.IsCell c vo
theorem eD.step{F:Nat->Prop}{H:H}(r:eD B H s.heap env ρ fr)(S:Step B.Z F ro H s H' s')(hf:∀b,FA env b->¬F b):
  eD B H' s'.heap env ρ fr:=by
 have k:∀b o,FA env b->s.heap.get? b=some o->s'.heap.get? b=some o:=λ b o f e=>S.keep b o e (r.ow b f).2.1 (hf b f)
 refine⟨r.fk,r.gl,r.bl,?_,λ x i e hk=>?_,r.ap,λ b f=>?_,r.cl,λ x c e=>?_⟩
 ·refine aG r.ns λ m hn hv=>?_
  refine⟨m,hn.at' λ o e=>k _ o (.inl rfl) e,λ x i v e hk ef=>?_⟩
  refine aG (hv x i v e hk ef) λ y e1 e2=>?_
  exact⟨y,e1,e2.grow S.grow⟩
 ·refine nQ (r.ce x i e hk) λ c vo e1 ak hv=>?_;refine aG ak λ o e2 e3=>?_
  refine⟨c,vo,e1,⟨o,k _ _ (.inr ⟨x,e1⟩) e2,e3⟩,λ v ef=>?_⟩
  refine aG (hv v ef) λ y e4 e5=>?_
  exact⟨y,e4,e5.grow S.grow⟩
 ·refine fy (r.ow b f) λ a b' c=>?_
  exact⟨S.live _ a,λ q=>b' (S.own q a),c⟩
 ·refine fh (r.cc x c e) λ vo o e1 e2=>?_
  exact⟨vo,o,k _ _ (.inr ⟨x,e⟩) e1,e2⟩
section
variable {B : Base} {H : H} {s : Shared} {env : Env} {ρ : fS} {fr : Mine.Fr} {M : Model} {A : Around} {E : Value -> Shared -> Prop}
theorem eD.load(r:eD B H s.heap env ρ fr){pos:Pos}{Q:Value->Shared->Prop}(hx:ρ.lookup x=some i)(hk:env.kindOf x=some .local\/env.kindOf x=some .cell)
  (hd:(x==("__debug__":Str))=false)(hv:fr[i]?=some (some v))(h:∀y,RV B.Z s.heap v y->Q y s):wpAny M A (eval (.Name x pos) env) Q E s:=by
 refine wpAny_Name ?_ hd
 rcases hk with hk|hk
 ·refine aG r.ns λ m hn hm=>?_
  refine aG (hm x i v hx hk hv) λ y e1 e2=>?_
  exact wpAny_loadName_local r.fk hk hn e1 (h y e2)
 ·refine nQ (r.ce x i hx hk) λ c vo e1 e2 hm=>?_
  refine aG (hm v hv) λ y ak e3=>?_;obtain rfl:=ak
  exact wpAny_loadName_cell r.fk hk e1 e2 (h y e3)
theorem jY(h:(fr.set i (some v))[j]?=some (some w)):(i=j/\w=v)\/(i≠j/\fr[j]?=some (some w)):=by
 rw[List.getElem?_set] at h
 by_cases q:i=j
 ·subst q
  rw[if_pos rfl] at h
  split at h
  ·injection h with h;injection h with h;exact .inl ⟨rfl,h.symm⟩
  ·exact dD h
 ·rw[if_neg q] at h;exact .inr ⟨q,h⟩
theorem eD.store(r:eD B H s.heap env ρ fr)(R:Rel B H s.heap)(inj:∀x y i,ρ.lookup x=some i->ρ.lookup y=some i->x=y){Q:Unit->Shared->Prop}
  (hx:ρ.lookup x=some i)(hk:env.kindOf x=some .local\/env.kindOf x=some .cell)(hv:RV B.Z s.heap v y)
  (h:∀s',Rel B H s'.heap->Step B.Z (FA env) true H s H s'->eD B H s'.heap env ρ (fr.set i (some v))->Q () s'):wpAny M A (storeName env x y) Q E s:=by
 have Sv:∀a O,H a=some O->¬FA env a:=λ a O e f=>(r.ow a f).2.1 (.inl ⟨O,e⟩)
 rcases hk with hk|hk
 ·refine aG r.ns λ m hn hm=>?_
  have fl:FA env env.locals:=.inl rfl
  refine wpAny_storeName_local hk hn (λ h' IP hs=>?_) (by rw[r.fk];rfl)
  obtain⟨R',S⟩:=R.Mr (h':=h') (tk:=s.toks+1) fl Sv (r.ow _ fl).2.1 (r.ow _ fl).2.2 (λ o e t=>by
   refine wu hn λ o' es ep e' d u0=>?_
   rw[e] at e';obtain rfl:=c8 e'
   obtain⟨_,xs,n,t⟩:=t
   rw[d] at t;injection t) (by refine im IP λ o u0 u0 e u0=>?_;exact⟨o,e⟩) (λ b o hb e=>hs.extBut b o hb e)
  refine h _ R' S ⟨r.fk,r.gl,r.bl,⟨_,IP,λ x' j w e k ef=>?_⟩,λ x' j e k=>?_,r.ap,λ b f=>?_,r.cl,λ x' c e=>?_⟩
  ·rcases jY ef with⟨rfl,rfl⟩|⟨ne,ef⟩
   ·obtain rfl:=inj _ _ _ e hx
    exact⟨y,if_pos rfl,hv.grow S.grow⟩
   ·refine aG (hm x' j w e k ef) λ z e1 e2=>?_
    refine⟨z,(if_neg λ q=>?_).trans e1,e2.grow S.grow⟩
    subst q;rw[hx] at e;obtain rfl:=c8 e;exact ne rfl
  ·refine nQ (r.ce x' j e k) λ c vo e1 e2 e3=>?_
   refine⟨c,vo,e1,e2.sameBut hs (λ q=>r.cl x' (q ▸ e1)),λ w ef=>?_⟩
   rcases jY ef with⟨rfl,rfl⟩|⟨ne,ef⟩
   ·obtain rfl:=inj _ _ _ e hx
    rw[hk] at k;cases k
   ·refine aG (e3 w ef) λ z e4 e5=>?_
    exact⟨z,e4,e5.grow S.grow⟩
  ·refine fy (r.ow b f) λ a1 a2 a3=>?_
   exact⟨S.live _ a1,λ q=>a2 (S.own q a1),a3⟩
  ·refine aK (r.cc x' c e) λ vo e1=>?_
   exact⟨vo,e1.sameBut hs (λ q=>r.cl x' (q ▸ e))⟩
 ·refine nQ (r.ce x i hx hk) λ c vo ec hc hm=>?_
  have fl:FA env c:=.inr ⟨x,ec⟩
  refine wpAny_storeName_cell r.fk hk ec hc (λ h' OQ hs=>?_)
  obtain⟨R',S⟩:=R.Mr (h':=h') (tk:=s.toks) fl Sv (r.ow _ fl).2.1 (r.ow _ fl).2.2 (λ o e t=>by
   refine aG hc λ o' e' d=>?_
   rw[e] at e';obtain rfl:=c8 e'
   obtain⟨_,xs,n,t⟩:=t
   rw[d] at t;injection t) (by refine aG OQ λ o e u0=>?_;exact⟨o,e⟩) (λ b o hb e=>hs.extBut b o hb e)
  refine aG r.ns λ m hn Xx=>?_
  refine h _ R' S ⟨r.fk,r.gl,r.bl,⟨m,hn.sameBut hs (λ q=>r.cl x (q ▸ ec)),λ x' j w e k ef=>?_⟩,λ x' j e k=>?_,r.ap,λ b f=>?_,r.cl,λ x' c' e=>?_⟩
  ·rcases jY ef with⟨rfl,rfl⟩|⟨ne,ef⟩
   ·obtain rfl:=inj _ _ _ e hx
    rw[hk] at k;cases k
   ·refine aG (Xx x' j w e k ef) λ z e1 e2=>?_
    exact⟨z,e1,e2.grow S.grow⟩
  ·by_cases q:x'=x
   ·subst q
    rw[hx] at e;obtain rfl:=c8 e
    refine⟨c,some y,ec,OQ,λ w ef=>?_⟩
    rcases jY ef with⟨_,rfl⟩|⟨ne,ef⟩
    ·exact⟨y,rfl,hv.grow S.grow⟩
    ·exact absurd rfl ne
   ·refine nQ (r.ce x' j e k) λ c' Tp e1 e2 e3=>?_
    refine⟨c',Tp,e1,e2.sameBut hs (λ q'=>q (r.ap _ _ _ e1 (q' ▸ ec))),λ w ef=>?_⟩
    rcases jY ef with⟨rfl,rfl⟩|⟨ne,ef⟩
    ·exact absurd (inj _ _ _ e hx) q
    ·refine aG (e3 w ef) λ z e4 e5=>?_
     exact⟨z,e4,e5.grow S.grow⟩
  ·refine fy (r.ow b f) λ a1 a2 a3=>?_
   exact⟨S.live _ a1,λ q=>a2 (S.own q a1),a3⟩
  ·by_cases q:c'=c
   ·subst q;exact⟨_,OQ⟩
   ·refine aK (r.cc x' c' e) λ Tp e1=>?_
    exact⟨Tp,e1.sameBut hs q⟩
end
theorem De(h0:(0:Int)<=x0):¬((0:Int)<=((-x0)-(1:Int))):=Int.not_le.mpr (Int.sub_neg_of_lt (Int.lt_of_le_of_lt (Int.neg_nonpos_of_nonneg h0) Int.one_pos))
theorem wZ:((-((-x0)-(1:Int)))-(1:Int))=x0:=by rw[Int.neg_sub,Int.sub_neg,Int.add_comm,Int.add_sub_cancel]
theorem Kk:((-((-((x0:Nat):Int))-(1:Int)))-(1:Int))=((x0:Nat):Int):=wZ
theorem Kl(h0:x0=(x1+x2)):(((x0:Nat):Int)-((x2:Nat):Int))=((x1:Nat):Int):=h0 ▸ Int.add_sub_cancel (x1:Int) x2
theorem Km(h0:(0:Int)<=x0)(h1:x0<((x1:Nat):Int))(h2:x1=(1000000:Nat)):((-9223372036854775808:Int)<=x0/\x0<(9223372036854775808:Int)):=⟨Int.le_trans (gS rfl) h0,RZ h1 h2 (gS rfl)⟩
theorem Ko(h0:x0<((x1:Nat):Int))(h1:x1=(1000000:Nat)):x0<=(1152921504606846975:Int):=Int.le_of_lt (RZ h0 h1 (gS rfl))
theorem Kp(h0:x0<((x1:Nat):Int))(h1:x1=(1000000:Nat)):x0<=(16777216:Int):=Int.le_of_lt (RZ h0 h1 (gS rfl))
theorem Kq(h0:x0<((x1:Nat):Int)):(Int.toNat x0)<=x1:=Int.toNat_le.mpr (Int.le_of_lt h0)
theorem Kr(h0:x0<(100000:Int)):x0<=(1000000:Int):=Int.le_trans (Int.le_of_lt h0) (gS rfl)
open PyProof.Rows
noncomputable def PV(B:Base)(F:Nat->Prop)(ro:Bool)(H:Mine.H)(s:Shared)(Q:V->Mine.H->Prop):Value->Shared->Prop:=
 λ y s'=>∃v H',RV B.Z s'.heap v y/\Rel B H' s'.heap/\Step B.Z F ro H s H' s'/\Q v H'
noncomputable abbrev dq:Value->Shared->Prop:=λ u0 u0=>False
structure j6 (n:Nat) (A:Around):Prop where
 hh:A.handled=none
 u:A.units+40*n+100<cLine
 d:A.depth+4*n+20<recursionLimit
section
variable {B : Base} {A : Around} {H : Mine.H} {s : Shared} {Q : V -> Mine.H -> Prop} {ro : Bool}
theorem jS(R:Rel B H s.heap)(r:RV B.Z s.heap v y)(q:Q v H):PV B bH ro H s Q y {s with toks:=t}:=
 ⟨v,H,r,R,(Step.tok ro H s t),q⟩
theorem gX(R:Rel B H s.heap)(r:RV B.Z s.heap v y)(q:Q v H):PV B bH ro H s Q y s:=⟨v,H,r,R,.refl ro H s,q⟩
theorem eL{i:Int}{t u:Nat}(R:Rel B H s.heap)(q:Q (.int i) H):PV B bH ro H s Q (.int i t) {s with toks:=u}:=jS R .int q
theorem fg{O:Mine.O}{Q:V->Mine.H->Prop}{H:Mine.H}(q:eH O Q H):∀a,H a=none->Q (.ref a) (aC H a O):=by unfold eH at q;exact q
theorem Kt{Q:V->Mine.H->Prop}{H:Mine.H}(h:eG o v w Q H):(∃a b,v=.int a/\w=.int b/\M6 o a b/\Q (.int (M7 o a b)) H)\/(∃a b,v=.tup a/\w=.tup b/\o=.add/\a.length+b.length<aZ/\Q (.tup (a++b)) H)\/
  (∃a b l m,v=.ref a/\w=.ref b/\o=.add/\H a=some (.list l)/\H b=some (.list m)/\l.length+m.length<aZ/\eH (.list (l++m)) Q H)\/
  ∃a u n,v=.ref a/\w=.int n/\o=.mul/\H a=some (.list [u])/\0<=n/\n<aZ/\eH (.list (List.replicate n.toNat u)) Q H:=by
 unfold eG at h
 cases v with
 |int a=>cases w with
  |int b=>exact .inl ⟨a,b,rfl,rfl,h⟩
  |_=>exact h.elim
 |tup a=>cases w with
  |tup b=>exact .inr (.inl ⟨a,b,rfl,rfl,h⟩)
  |_=>exact h.elim
 |ref a=>cases w with
  |ref b=>refine WD h λ l m x y z n q=>?_;exact .inr (.inr (.inl ⟨a,b,l,m,rfl,rfl,z,x,y,n,q⟩))
  |int n=>refine WC h λ v x z n0 n1 q=>?_;exact .inr (.inr (.inr ⟨a,v,n,rfl,rfl,z,x,n0,n1,q⟩))
  |_=>exact h.elim
 |_=>exact h.elim
theorem wH(R:Rel B H s.heap)(hl:l.length<=aZ)(r:cx B.Z s.heap l xs.toList)(q:Q (.tup l) H):
  PV B bH ro H s Q (.ref s.heap.objs.size) {s with heap:=s.heap.push {cls:=.type "tuple",data:=.seq xs},toks:=t}:=by
 have k:∀b o,s.heap.get? b=some o->(s.heap.push {cls:=.type "tuple",data:=.seq xs}).get? b=some o:=λ b o e=>fR _ e
 refine bV (R.quiet (tk:=t) k) λ R' S=>?_
 exact⟨.tup l,H,.tup (n:=0) (fW _ rfl) (R.ql (bW (bE _))) hl (r.grow S.grow),R',S.weaken (λ u0=>rfl),q⟩
theorem sA(R:Rel B H s.heap)(hl:l.length<=aZ)(r:cx B.Z s.heap l xs.toList)(q:eH (.list l) Q H):
  PV B bH ro H s Q (.ref s.heap.objs.size) {s with heap:=s.heap.push {cls:=.type "list",data:=.seq xs},toks:=t}:=by
 have k:∀b o,s.heap.get? b=some o->(s.heap.push {cls:=.type "list",data:=.seq xs}).get? b=some o:=λ b o e=>fR _ e
 have ma:(s.heap.push {cls:=.type "list",data:=.seq xs}).get? s.heap.objs.size=some (dF xs 0):=fW _ rfl
 obtain⟨hn,R',S⟩:=R.alloc (tk:=t) (O:=.list l) k (R.rI (bE _)) (.list (n:=0) ma hl (r.grow (dX.keeps k))) (λ d hd=>by unfold aH at hd;rw[ma] at hd;exact dD hd)
 exact⟨.ref _,_,.ref ⟨_,ma⟩ (R.ql (R.rI (bE _)).1),R',S.weaken (λ u0=>rfl),fg q _ hn⟩
theorem yW{O:Mine.O}(R:Rel B H s.heap)(hO:O=.ao []\/O=.b9 [])(q:eH O Q H):
  PV B bH ro H s Q (.ref s.heap.objs.size) {s with heap:=s.heap.push {cls:=.type "dict",data:=.dict #[]},toks:=t}:=by
 have k:∀b o,s.heap.get? b=some o->(s.heap.push {cls:=.type "dict",data:=.dict #[]}).get? b=some o:=λ b o e=>fR _ e
 have ma:(s.heap.push {cls:=.type "dict",data:=.dict #[]}).get? s.heap.objs.size=some (iN #[] 0):=fW _ rfl
 obtain⟨hn,R',S⟩:=R.alloc (tk:=t) (O:=O) k (R.rI (bE _)) (by
  rcases hO with rfl|rfl
  ·exact .ao ⟨_,#[],0,ma,⟨rfl,rfl,rfl⟩,rfl,λ u0 he=>(by simp at he),.nil,by simp⟩ .nil
  ·exact .b9 ⟨_,#[],0,ma,⟨rfl,rfl,rfl⟩,rfl,rfl,(λ u0 h=>(by simp at h)),by simp⟩ .nil) (λ d hd=>by unfold aH at hd;rw[ma] at hd;exact dD hd)
 exact⟨.ref _,_,.ref ⟨_,ma⟩ (R.ql (R.rI (bE _)).1),R',S.weaken (λ u0=>rfl),fg q _ hn⟩
theorem yX(ha:0<=a)(hb:0<=b):Builtin.bitAnd a b=((uC a.toNat b.toNat:Nat):Int):=by
 unfold uC;simp[Builtin.bitAnd,ha,hb]
theorem Dg(ha:0<=a)(hb:0<=b):Builtin.bitOr a b=((io a.toNat b.toNat:Nat):Int):=by
 have h1:¬0<=Builtin.bitNot a:=by unfold Builtin.bitNot;exact De ha
 have h2:¬0<=Builtin.bitNot b:=by unfold Builtin.bitNot;exact De hb
 have e1:Builtin.bitNot (Builtin.bitNot a)=a:=by unfold Builtin.bitNot;exact wZ
 have e2:Builtin.bitNot (Builtin.bitNot b)=b:=by unfold Builtin.bitNot;exact wZ
 unfold Builtin.bitOr io
 simp only[Builtin.bitAnd,h1,h2,decide_false,e1,e2]
 unfold Builtin.bitNot;exact Kk
theorem qc(a b:Nat):a|||b=(a^^^b)+(a&&&b):=by
 have h:(a^^^b)&&&(a&&&b)=0:=by
  apply Nat.eq_of_testBit_eq;intro i
  simp only[Nat.testBit_and,Nat.testBit_xor,Nat.zero_testBit]
  cases a.testBit i<;>cases b.testBit i<;>rfl
 have h2:(a^^^b)|||(a&&&b)=a|||b:=by
  apply Nat.eq_of_testBit_eq;intro i
  simp only[Nat.testBit_and,Nat.testBit_xor,Nat.testBit_or]
  cases a.testBit i<;>cases b.testBit i<;>rfl
 have h3:=nat_or_add_and (a^^^b) (a&&&b)
 rw[h,h2] at h3
 exact dP (ai [_,_,_] X0 (Pl X1 X2) 1 (Pl X0 (Nm 0)) (Pl X1 X2) rfl (bw h3)) (ai [_,_,_] (Pl X0 X1) X2 1 (Pl X0 X1) (Pl X2 (Nm 0)) rfl (bw h3.symm))
theorem HC(ha:0<=a)(hb:0<=b):Builtin.bitXor a b=((Du a.toNat b.toNat:Nat):Int):=by
 have h1:=Dg ha hb
 have h2:=yX ha hb
 have h3:=qc a.toNat b.toNat
 unfold Builtin.bitXor
 rw[h1,h2]
 unfold io uC Du
 exact Kl h3
theorem Rel.bS(R:Rel B H h)(e:H a=some (.list l)):∃xs n,h.get? a=some (dF xs n)/\l.length<=aZ/\cx B.Z h l xs.toList/\xs.size=l.length:=by
 refine nQ ((R.obj a _ e).2) λ xs n e z l=>?_
 exact⟨xs,n,e,z,l,(l.length.trans xs.length_toList).symm⟩
theorem Rel.ee(R:Rel B H h)(e:H a=some (.ao es)):∃bY,h.DictOf (intKind B.prog B.w) a bY/\RK B.Z h es bY:=(R.obj a _ e).2
theorem Rel.pD(R:Rel B H h)(e:H a=some (.b9 es)):∃xs,h.DictOfH (lI B.prog B.w) a xs/\RT B.Z h es xs:=(R.obj a _ e).2
theorem Rel.gh(R:Rel B H h){O:Mine.O}(e:H a=some O):(a==sysModules)=false:=by
 have h1:=(R.obj a O e).1.2
 exact beq_eq_false_iff_ne.mpr (λ q=>by have q':a=1:=q;exact Nat.not_succ_le_zero 0 (aS [_] (Nm 1) (Nm 0) 1 (Pl (Nm 3) (Nm 1)) X0 1 X0 (Nm 1) rfl h1 (bw q')))
theorem Dh(e:a=c)(f:b=d)(h:c+d<aZ):a+b<=sizeLine:=by rw[e,f];exact Nat.le_of_lt (kI h (by decide))
theorem V3{α:Type}{l:List V}{xs:Array α}(h:xs.isEmpty=true)(e:xs.size=l.length):l=[]:=List.eq_nil_of_length_eq_zero (e ▸ Array.size_eq_zero_iff.mpr (Array.isEmpty_iff.mp h))
theorem HD(rx:RV B.Z s.heap (.tup l) x)(ry:RV B.Z s.heap (.tup m) y)(R:Rel B H s.heap)(hs:l.length+m.length<aZ)(q:Q (.tup (l++m)) H):wpAny (model B.prog B.w) A (binaryOp .Add x y) (PV B bH ro H s Q) dq s:=by
 refine im (ie rx) λ a xs n ak bA=>?_;obtain rfl:=ak;refine gM bA λ e1 z1 l1 s1=>?_
 refine im (ie ry) λ b ys n' ak bA=>?_;obtain rfl:=ak;refine gM bA λ e2 z2 l2 s2=>?_
 by_cases h1:xs.isEmpty=true
 ·rw[V3 h1 s1] at q
  exact concat_meets ⟨_,e1,rfl⟩ ⟨_,e2,rfl⟩ noFill_tuple_add seq_tuple_add F.slot_tuple_add F.entry_tuple_add (F.args_tuple_add_2 _ _) (AutoSeq1.tuple___add___tuple_tuple_0 _ xs n _ ys n' h1) ⟨e1,e2,gX R ry q⟩
 by_cases h2:ys.isEmpty=true
 ·rw[V3 h2 s2,eE] at q
  exact concat_meets ⟨_,e1,rfl⟩ ⟨_,e2,rfl⟩ noFill_tuple_add seq_tuple_add F.slot_tuple_add F.entry_tuple_add (F.args_tuple_add_2 _ _) (AutoSeq1.tuple___add___tuple_tuple_1 _ xs n _ ys n' h1 h2) ⟨e1,e2,gX R rx q⟩
 ·exact P.add_tuple (n:=n) (n2:=n') e1 e2 h1 h2 (wH (t:=s.toks) R (by rw[eQ];exact Nat.le_of_lt hs) (by rw[Array.toList_append];exact l1.append l2) q) (Dh s1 s2 hs)
theorem Ew(R:Rel B H s.heap)(hx:H a=some (.list l))(hy:H b=some (.list m))(hs:l.length+m.length<aZ)(q:eH (.list (l++m)) Q H):wpAny (model B.prog B.w) A (binaryOp .Add (.ref a) (.ref b)) (PV B bH ro H s Q) dq s:=by
 refine lk (R.bS hx) λ xs n e1 z1 l1 s1=>?_
 refine lk (R.bS hy) λ ys n' e2 z2 l2 s2=>?_
 exact P.add_list (n:=n) (n2:=n') e1 e2 (sA (t:=s.toks) R (by rw[eQ];exact Nat.le_of_lt hs) (by rw[Array.toList_append];exact l1.append l2) q) (Dh s1 s2 hs)
theorem Ey(x:Value):∀(n:Nat) (acc:Array Value),(List.foldl (λ x1 x2=>x1++x2) acc (List.replicate n #[x]))=acc++(List.replicate n x).toArray:=by
 intro xR
 induction xR with
 |zero=>
  intro acc
  simp
 |succ n aU=>
  intro acc
  rw[List.replicate_succ,List.foldl_cons,aU,List.replicate_succ]
  apply Array.ext'
  simp
theorem tS(h:n<2^62):n.log2<62:=by
 by_cases h0:n=0
 ·subst h0;decide
 ·exact(Nat.log2_lt h0).mpr h
theorem vi(h:a.natAbs<2^62):Builtin.Int.intBits a<=64:=by
 have:=tS h
 unfold Builtin.Int.intBits
 split
 ·exact dz _
 ·exact cV this (eP rfl)
theorem HE{a:Nat}{i:Int}(R:Rel B H s.heap)(hx:H a=some (.list [v]))(h0:0<=i)(h1:i<aZ)(q:eH (.list (List.replicate i.toNat v)) Q H):wpAny (model B.prog B.w) A (binaryOp .Mult (.ref a) (.int i u)) (PV B bH ro H s Q) dq s:=by
 refine lk (R.bS hx) λ xs n e1 z1 l1 s1=>?_
 refine aG (DI l1) λ x Tq rv=>?_
 have Tq:xs=#[x]:=Array.toList_inj.mp Tq
 subst Tq
 have Lz:aZ=1000000:=rfl
 refine wpAny_binaryOp_repeat_ref (T:="list") (U:="int") (by decide) ⟨_,e1,rfl⟩ (λ s'=>typeIs_int s' i u) noFill_list_mul F.fills_int_mul F.slot_int_rmul repeat_list F.slot_int_index.lookup
  (call_meets F.slot_int_rmul (typeIs_int s i u) F.entry_int_rmul (F.args_int_rmul_2 _ _) (int___rmul___int_list i u a #[x] n)
   ⟨e1,rfl,⟨_,e1,rfl⟩,call_meets F.slot_list_mul ⟨_,e1,rfl⟩ F.entry_list_mul (F.args_list_mul_2 _ _)
    (AutoListH.list___mul___list_int_3 a #[x] n i u (by simp[Builtin.List.listFitsIndex];exact Km h0 h1 Lz) (by simp;exact Ko h1 Lz) (by simp[Builtin.List.listTooLong,sizeLine];exact Kp h1 Lz))
    ⟨e1,?_⟩⟩)
 refine sA (t:=s.toks) (l:=List.replicate i.toNat v) R (by rw[List.length_replicate];exact Kq h1) ?_ q
 have:(#[x]:Array Value).isEmpty=false:=rfl
 rw[this,Ey]
 simpa using cx.replicate rv i.toNat
noncomputable def Jm:wg->Operator
 | .add=> .Add| .sub=> .Sub| .mul=> .Mult| .fdiv=> .FloorDiv| .mod=> .Mod| .bor=> .BitOr| .band=> .BitAnd| .bxor=> .BitXor| .shl=> .LShift| .shr=> .RShift
theorem HF(R:Rel B H s.heap)(p:M6 o a b)(q:Q (.int (M7 o a b)) H):wpAny (model B.prog B.w) A (binaryOp (Jm o) (.int a t) (.int b u)) (PV B bH ro H s Q) dq s:=by
 cases o
 ·exact P.add_int (eL R q)
 ·exact P.sub_int (eL R q)
 ·refine P.mul_int (eL R q) (IntMulOk.of_left ?_)
  exact vi (Nat.lt_trans p.1 (by decide))
 ·refine floordiv_int (Int.ne_of_gt p.2.1) (eL R ?_) (.inl (PyProof.noPylong_of_log2 ?_))
  ·rw[Int.fdiv_eq_ediv_of_nonneg _ (Int.le_of_lt p.2.1)];exact q
  ·have:=tS p.2.2.2;exact ai [_] (Pl X0 (Nm 1)) (Nm 9000) 1 (Pl X0 (Nm 1)) (Nm 62) rfl this
 ·refine mod_int' (Int.ne_of_gt p.1) (eL R ?_)
  rw[Int.fmod_eq_emod_of_nonneg _ (Int.le_of_lt p.1)];exact q
 ·exact or_int (eL R (by rw[Dg p.1 p.2];exact q))
 ·exact and_int (eL R (by rw[yX p.1 p.2];exact q))
 ·exact xor_int (eL R (by rw[HC p.1 p.2];exact q))
 ·refine bV p λ ak bA=>?_;obtain rfl:=ak;refine bV bA λ h0 h1=>?_
  refine lshift_int_small h0 (by exact Kr h1) (by decide) (eL R ?_)
  have:(1:Int)*2^b.toNat=((rB b.toNat:Nat):Int):=by unfold rB;rw[Nat.one_shiftLeft,Int.one_mul];norm_cast
  rw[this];exact q
 ·refine fy p λ h0 h1 h2=>?_
  refine rshift_int h1 (eL R ?_)
  have:a.fdiv (2^b.toNat)=((wi a.toNat b.toNat:Nat):Int):=by
   unfold wi
   rw[Nat.shiftRight_eq_div_pow,Int.fdiv_eq_ediv_of_nonneg _ (Int.le_of_lt (Int.pow_pos (by decide)))]
   have e:a=(a.toNat:Int):=(Int.toNat_of_nonneg h0).symm
   rw[e];rfl
  rw[this];exact q
theorem HG(rx:RV B.Z s.heap v x)(ry:RV B.Z s.heap w y)(R:Rel B H s.heap)(h:eG o v w Q H):wpAny (model B.prog B.w) A (binaryOp (Jm o) x y) (PV B bH ro H s Q) dq s:=by
 rcases Kt h with⟨a,b,rfl,rfl,p,q⟩|⟨l,m,rfl,rfl,rfl,hs,q⟩|⟨a,b,l,m,rfl,rfl,rfl,hx,hy,hs,q⟩|⟨a,u,n,rfl,rfl,rfl,hx,h0,h1,q⟩
 ·refine aK rx λ t ak=>?_;obtain rfl:=ak
  refine aK ry λ u ak=>?_;obtain rfl:=ak
  exact HF R p q
 ·exact HD rx ry R hs q
 ·obtain rfl:=rx.1
  obtain rfl:=ry.1
  exact Ew R hx hy hs q
 ·obtain rfl:=rx.1
  refine aK ry λ t ak=>?_;obtain rfl:=ak
  exact HE R hx h0 h1 q
end
section
variable {B : Base} {A : Around} {H : Mine.H} {s : Shared} {Q : V -> Mine.H -> Prop} {Pb : Bool -> Mine.H -> Prop} {ro : Bool}
theorem RK.HH{es bY}(r:RK B.Z h es bY):bY.map (·.1)=es.map (·.1):=RL.ind (P:=λ es bY=>bY.map (·.1)=es.map (·.1)) rfl (λ a u0 e=>by rw[List.map_cons,List.map_cons,a.1,e]) r
theorem RK.length{es bY}(r:RK B.Z h es bY):bY.length=es.length:=RL.length r
theorem yY{K:Type}[DecidableEq K]{k:K}{es:List (K×V)}{p:K×V}(e:p.1=k):aE (p::es) k=some p.2:=by unfold aE;rw[List.find?_cons,dE e];rfl
theorem vN{K:Type}[DecidableEq K]{k:K}{es:List (K×V)}{p:K×V}(e:p.1≠k):aE (p::es) k=aE es k:=by unfold aE;rw[List.find?_cons,eY e]
theorem RK.look(k:Int){es bY}(r:RK B.Z h es bY):(aE es k=none/\valueAt bY k=none)\/∃v x,aE es k=some v/\valueAt bY k=some x/\RV B.Z h v x:=
 RL.ind (P:=λ es bY=>(aE es k=none/\valueAt bY k=none)\/∃v x,aE es k=some v/\valueAt bY k=some x/\RV B.Z h v x) (.inl ⟨rfl,rfl⟩) (λ{p q u0 u0} a u0 ih=>by
  by_cases e:p.1=k
  ·exact .inr ⟨_,_,yY e,by unfold valueAt;rw[List.find?_cons,dE (a.1.trans e)];rfl,a.2⟩
  ·rw[vN e];unfold valueAt;rw[List.find?_cons,eY λ f=>e (a.1.symm.trans f)];exact ih) r
theorem RT.look(k:List Ak){es bY}(r:RT B.Z h es bY):(aE es k=none/\atKey bY k=none)\/∃v a x,aE es k=some v/\atKey bY k=some (a,x)/\RV B.Z h v x:=
 RL.ind (P:=λ es bY=>(aE es k=none/\atKey bY k=none)\/∃v a x,aE es k=some v/\atKey bY k=some (a,x)/\RV B.Z h v x) (.inl ⟨rfl,rfl⟩) (λ{p q u0 u0} a u0 ih=>by
  by_cases e:p.1=k
  ·exact .inr ⟨_,_,_,yY e,by unfold atKey;rw[List.find?_cons,dE (a.1.trans e)];rfl,a.2.2⟩
  ·rw[vN e];unfold atKey;rw[List.find?_cons,eY λ f=>e (a.1.symm.trans f)];exact ih) r
theorem wG.map{h:Heap}(d:h.DictOf (intKind B.prog B.w) a bY):h.MapOf (intKind B.prog B.w) a (valueAt bY):=by
 refine RX d λ o es ep ho hc hd hk hp u0=>?_
 exact⟨o,es,ep,ho,hc,hd,hk,λ k=>by unfold findBy;rw[←Array.find?_toList];exact hp.find k⟩
theorem Rk(r:RV B.Z h v x)(e:M5 v=some k):Nv k x=true:=by
 cases v with
 |int i=>obtain rfl:=c8 e;refine aK r λ t ak=>?_;obtain rfl:=ak;exact beq_self_eq_true i
 |str i=>obtain rfl:=c8 e;refine aK r λ t ak=>?_;obtain rfl:=ak;exact beq_self_eq_true (jn i)
 |_=>exact dD e
theorem HI(r:cx B.Z h l xs):∀{k:List Ak},ib l=some k->ItemsAre (AS B.prog B.w) k xs:=
 r.ind (P:=λ l xs=>∀{k:List Ak},ib l=some k->ItemsAre (AS B.prog B.w) k xs) (λ e=>by cases e;exact .nil) λ{v u0 u0 u0} a u0 ih k e=>by
  have e:(M5 v).bind _=some k:=e
  refine aG (Option.bind_eq_some_iff.mp e) λ c e1 e=>?_
  refine aG (Option.map_eq_some_iff.mp e) λ k' e2 ak=>?_;obtain rfl:=ak
  exact .cons (Rk a e1) (ih e2)
theorem AT(r:RV B.Z h (.tup l) (.ref a))(e:ib l=some k):(lI B.prog B.w).is h k a:=by
 refine CH r λ u0 u0 u0 e0 e1 u0 u0 l1=>?_
 injection e0 with u1;subst u1
 exact⟨_,_,_,e1,rfl,rfl,HI l1 e⟩
theorem w7:((jn a).cps.toList==(jn b).cps.toList)=decide (a=b):=by
 by_cases e:a=b
 ·subst e;simp
 ·rw[eY e]
  refine beq_eq_false_iff_ne.mpr λ q=>e (wX ?_)
  generalize jn a=x at q
  generalize jn b=y at q
  cases x;cases y
  simp only[Str.mk.injEq]
  exact Array.toList_inj.mp q
theorem cr(R:Rel B H s.heap)(q:Pb b H):PV B bH ro H s (λ v h=>∃b,v=.bool b/\Pb b h) (.bool b) {s with toks:=t}:=jS R .bool ⟨b,rfl,q⟩
noncomputable abbrev QB(Pb:Bool->Mine.H->Prop):V->Mine.H->Prop:=λ v h=>∃b,v=.bool b/\Pb b h
theorem cx.U3{l xs}(r:cx B.Z h l xs):v∈l->∃y∈xs,RV B.Z h v y:=r.ind (P:=λ l xs=>v∈l->∃y∈xs,RV B.Z h v y) (λ m=>nomatch m) λ{w y u0 u0} a u0 ih m=>by
 rcases ci m with rfl|m
 ·exact⟨y,.head _,a⟩
 ·refine aG (ih m) λ y hy r=>?_;exact⟨y,.tail _ hy,r⟩
theorem cx.mem{l xs}(r:cx B.Z h l xs)(m:y∈xs):∃v∈l,RV B.Z h v y:=N4 m r
theorem yZ{p:Value->Bool}{xs:Array Value}{Q:Value->Prop}(r:cx B.Z h l xs.toList)(f:∀w∈l,∀x,RV B.Z h w x->(p x=true↔w=v))(h1:v∈l->Q (.bool (!true)))(h2:v∉l->Q (.bool (!false))):Q (.bool (!(xs.any p))):=by
 by_cases q:v∈l
 ·refine aG (r.U3 q) λ y hy ry=>?_
  rw[show xs.any p=true from Array.any_eq_true'.mpr ⟨y,Array.mem_toList_iff.mp hy,(f v q y ry).mpr rfl⟩];exact h1 q
 ·rw[show xs.any p=false from Bool.eq_false_iff.mpr λ a=>by
   refine aG (Array.any_eq_true'.mp a) λ y hy e=>?_
   refine aG (r.mem (Array.mem_toList_iff.mpr hy)) λ w hw ry=>?_
   exact q ((f w hw y ry).mp e ▸ hw)]
  exact h2 q
theorem RK.vO{es bY}(rk:RK B.Z h es bY):(valueAt bY k).isSome=(aE es k).isSome:=by
 rcases rk.look k with⟨a,b⟩|⟨v,x,a,b,_⟩<;>(rw[a,b];rfl)
noncomputable def Cq:Fh->CmpOp
 | .eq=> .Eq| .ne=> .NotEq| .lt=> .Lt| .le=> .LtE| .gt=> .Gt| .l9=> .In| .kA=> .NotIn| .IK=> .Is| .M4=> .IsNot
theorem Ku{p:Int->Int->Bool}(h:Dv p v w Pb H):∃a b,v=.int a/\w=.int b/\Pb (p a b) H:=by
 unfold Dv at h
 cases v with
 |int a=>cases w with
  |int b=>exact⟨a,b,rfl,rfl,h⟩
  |_=>exact h.elim
 |_=>exact h.elim
theorem GG(h:OO (yg v w) ne Pb H):(∃a b,v=.int a/\w=.int b/\Pb (Ac ne (decide (a=b))) H)\/(∃a b,v=.str a/\w=.str b/\Pb (Ac ne (decide (a=b))) H)\/(v=.none/\w=.none/\Pb (Ac ne true) H)\/(v=.none/\(∃b,w=.int b)/\Pb (Ac ne false) H)\/((∃a,v=.int a)/\w=.none/\Pb (Ac ne false) H):=by
 cases v with
 |int a=>cases w with
  |int b=>exact .inl ⟨a,b,rfl,rfl,h⟩
  |none=>exact .inr (.inr (.inr (.inr ⟨⟨a,rfl⟩,rfl,h⟩)))
  |_=>exact h.elim
 |str a=>cases w with
  |str b=>exact .inr (.inl ⟨a,b,rfl,rfl,h⟩)
  |_=>exact h.elim
 |none=>cases w with
  |none=>exact .inr (.inr (.inl ⟨rfl,rfl,h⟩))
  |int b=>exact .inr (.inr (.inr (.inl ⟨rfl,⟨b,rfl⟩,h⟩)))
  |_=>exact h.elim
 |_=>exact h.elim
section
variable {v w : V} {x y : Value} {n : Nat}
theorem Kv(rx:RV B.Z s.heap v x)(ry:RV B.Z s.heap w y)(R:Rel B H s.heap)(h:OO (yg v w) false Pb H):wpAny (model B.prog B.w) A (compareOp .Eq x y) (PV B bH ro H s (QB Pb)) dq s:=by
 replace h:=GG h;rcases h with⟨a,b,rfl,rfl,h⟩|⟨a,b,rfl,rfl,h⟩|⟨rfl,rfl,h⟩|⟨rfl,⟨b,rfl⟩,h⟩|⟨⟨a,rfl⟩,rfl,h⟩
 ·refine aK rx λ t ak=>?_;obtain rfl:=ak;refine aK ry λ u ak=>?_;obtain rfl:=ak;exact PySem.P.eq_int (cr (t:=s.toks) R h)
 ·refine aK rx λ t ak=>?_;obtain rfl:=ak;refine aK ry λ u ak=>?_;obtain rfl:=ak;exact PySem.P.eq_str (by rw[w7];exact cr (t:=s.toks) R h)
 ·obtain rfl:=eX rx;obtain rfl:=eX ry;exact EqNone.eq_none_none (cr (t:=s.toks) R h)
 ·obtain rfl:=eX rx;refine aK ry λ u ak=>?_;obtain rfl:=ak;exact EqNone.eq_none_int (cr (t:=s.toks) R h)
 ·refine aK rx λ u ak=>?_;obtain rfl:=ak;obtain rfl:=eX ry;exact EqNone.eq_int_none (cr (t:=s.toks) R h)
theorem Kw(rx:RV B.Z s.heap v x)(ry:RV B.Z s.heap w y)(R:Rel B H s.heap)(h:OO (yg v w) true Pb H):wpAny (model B.prog B.w) A (compareOp .NotEq x y) (PV B bH ro H s (QB Pb)) dq s:=by
 replace h:=GG h;rcases h with⟨a,b,rfl,rfl,h⟩|⟨a,b,rfl,rfl,h⟩|⟨rfl,rfl,h⟩|⟨rfl,⟨b,rfl⟩,h⟩|⟨⟨a,rfl⟩,rfl,h⟩
 ·refine aK rx λ t ak=>?_;obtain rfl:=ak;refine aK ry λ u ak=>?_;obtain rfl:=ak;exact PySem.P.ne_int (cr (t:=s.toks) R h)
 ·refine aK rx λ t ak=>?_;obtain rfl:=ak;refine aK ry λ u ak=>?_;obtain rfl:=ak
  refine PySem.P.ne_str ?_
  show PV B bH ro H s (QB Pb) (.bool (!((jn _).cps.toList==(jn _).cps.toList))) s
  rw[w7];exact cr (t:=s.toks) R h
 ·obtain rfl:=eX rx;obtain rfl:=eX ry;exact EqNone.ne_none_none (cr (t:=s.toks) R h)
 ·obtain rfl:=eX rx;refine aK ry λ u ak=>?_;obtain rfl:=ak;exact EqNone.ne_none_int (cr (t:=s.toks) R h)
 ·refine aK rx λ u ak=>?_;obtain rfl:=ak;obtain rfl:=eX ry;exact EqNone.ne_int_none (cr (t:=s.toks) R h)
theorem tE{p:Int->Int->Bool}(k:∀{a b t u},PV B bH ro H s (QB Pb) (.bool (p a b)) s->wpAny (model B.prog B.w) A (compareOp op (.int a t) (.int b u)) (PV B bH ro H s (QB Pb)) dq s)(rx:RV B.Z s.heap v x)(ry:RV B.Z s.heap w y)(R:Rel B H s.heap)(h:Dv p v w Pb H):wpAny (model B.prog B.w) A (compareOp op x y) (PV B bH ro H s (QB Pb)) dq s:=by
 replace h:=Ku h;obtain⟨a,b,rfl,rfl,h⟩:=h
 obtain⟨t,rfl⟩:=rx
 obtain⟨u,rfl⟩:=ry
 exact k (cr (t:=s.toks) R h)
theorem Kx(h:I7 v w ne Pb H):w=.none/\((v=.none/\Pb (!ne) H)\/((∃a,v=.int a)\/(∃a,v=.str a)\/∃l,v=.tup l)/\Pb ne H):=by
 cases w with
 |none=>cases v with
  |none=>exact⟨rfl,.inl ⟨rfl,h⟩⟩
  |int a=>exact⟨rfl,.inr ⟨.inl ⟨a,rfl⟩,h⟩⟩
  |str a=>exact⟨rfl,.inr ⟨.inr (.inl ⟨a,rfl⟩),h⟩⟩
  |tup a=>exact⟨rfl,.inr ⟨.inr (.inr ⟨a,rfl⟩),h⟩⟩
  |_=>exact h.elim
 |_=>exact h.elim
theorem y4(k:∀{x:Value},PV B bH ro H s (QB Pb) (.bool (Ac ne (x== .none))) s->wpAny (model B.prog B.w) A (compareOp op x .none) (PV B bH ro H s (QB Pb)) dq s)(rx:RV B.Z s.heap v x)(ry:RV B.Z s.heap w y)(R:Rel B H s.heap)(h:I7 v w ne Pb H):wpAny (model B.prog B.w) A (compareOp op x y) (PV B bH ro H s (QB Pb)) dq s:=by
 replace h:=Kx h;obtain⟨rfl,h⟩:=h
 obtain rfl:=eX ry
 rcases h with⟨rfl,h⟩|⟨⟨a,rfl⟩|⟨a,rfl⟩|⟨a,rfl⟩,h⟩
 ·obtain rfl:=eX rx;exact k (cr (t:=s.toks) R (by cases ne<;>exact h))
 ·obtain⟨t,rfl⟩:=rx;exact k (cr (t:=s.toks) R (by cases ne<;>exact h))
 ·obtain⟨t,rfl⟩:=rx;exact k (cr (t:=s.toks) R (by cases ne<;>exact h))
 ·obtain⟨t,_,_,rfl,_⟩:=rx;exact k (cr (t:=s.toks) R (by cases ne<;>exact h))
theorem Ky(rx:RV B.Z s.heap v x)(ry:RV B.Z s.heap w y)(R:Rel B H s.heap)(h:OP v w Pb H):wpAny (model B.prog B.w) A (compareOp .In x y) (PV B bH ro H s (QB Pb)) dq s:=by
 unfold OP at h
 cases w with
 |ref d=>
  refine fh h λ i es ak bA=>?_;obtain rfl:=ak;refine bV bA λ hd h=>?_
  obtain⟨t,rfl⟩:=rx
  obtain rfl:=ry.1
  refine aG (R.ee hd) λ bY hk rk=>?_
  refine wpAny_in_of (knd:=intKind B.prog B.w) (k:=i) (beq_self_eq_true i) (R.gh hd) (wG.map hk) ?_
  rw[rk.vO];exact cr R h
 |_=>exact h.elim
theorem BH(oa:j6 n A)(rx:RV B.Z s.heap v x)(ry:RV B.Z s.heap w y)(R:Rel B H s.heap)(h:iq v w Pb H):wpAny (model B.prog B.w) A (compareOp .NotIn x y) (PV B bH ro H s (QB Pb)) dq s:=by
 have hu:=oa.u
 unfold iq at h
 cases w with
 |ref d=>
  obtain rfl:=ry.1
  rcases h with⟨i,es,rfl,hd,h⟩|⟨i,l,rfl,hd,hi,_,h1,h2⟩|⟨l,k,es,rfl,hd,hk,h⟩
  ·refine aK rx λ t ak=>?_;obtain rfl:=ak
   refine aG (R.ee hd) λ bY hk rk=>?_
   refine wpAny_notIn_of (knd:=intKind B.prog B.w) (k:=i) (beq_self_eq_true i) (R.gh hd) (wG.map hk) ?_
   rw[rk.vO];exact cr R h
  ·refine aK rx λ t ak=>?_;obtain rfl:=ak
   refine lk (R.bS hd) λ xs n e1 z1 l1 s1=>?_
   have int:∀v∈l,∀y,RV B.Z s.heap v y->∃j t,v=.int j/\y=.int j t:=λ v hv y r=>by
    have:=hi v hv
    cases v with
    |int j=>refine aK r λ t ak=>?_;obtain rfl:=ak;exact⟨j,t,rfl,rfl⟩
    |_=>exact this.elim
   refine SeqRoads2.notIn_list (F8 i) (λ y hy=>?_) e1 (yZ (Q:=λ y=>PV B bH ro H s (QB Pb) y s) l1 (λ v hv y r=>?_) (λ q=>cr (t:=s.toks) R (h1 q)) λ q=>cr (t:=s.toks) R (h2 q))
   ·refine aG (l1.mem (Array.mem_toList_iff.mpr hy)) λ v hv r=>?_
    refine fh (int v hv y r) λ j t ak bA=>?_;obtain rfl:=ak;obtain rfl:=bA
    exact MeetsSeq.EqGives.int _ _ _ _
   ·refine fh (int v hv y r) λ j t ak bA=>?_;obtain rfl:=ak;obtain rfl:=bA
    exact⟨λ e=>congrArg V.int (eq_of_beq e),λ e=>by injection e with e;exact beq_iff_eq.mpr e⟩
  ·refine aG (R.pD hd) λ xs hx rt=>?_
   refine im (id rx) λ a u0 u0 ak u0=>?_;obtain rfl:=ak
   refine wpAny_notIn_heap (knd:=lI B.prog B.w) (k:=k) (by show A.in1.units<cLine;simp;exact ai [_,_,_] (Pl (Pl X0 (Nm 1)) (Nm 1)) X1 1 (Pl (Pl (Pl X0 (Ml 40 X2)) (Nm 100)) (Nm 1)) X1 rfl hu) (AT rx hk) (R.gh hd) hx ?_
   have:(atKey xs k).isSome=(aE es k).isSome:=by
    rcases rt.look k with⟨a,b⟩|⟨v,a',x,a,b,_⟩<;>(rw[a,b];rfl)
   rw[this];exact cr R h
 |tup l=>
  refine aG h λ c ak bA=>?_;obtain rfl:=ak;refine fy bA λ hi h1 h2=>?_
  refine aK rx λ t ak=>?_;obtain rfl:=ak
  refine im (ie ry) λ a xs m ak bA=>?_;obtain rfl:=ak;refine gM bA λ e1 u0 l1 u0=>?_
  have str:∀v∈l,∀y,RV B.Z s.heap v y->∃j t,v=.str j/\y=.str (jn j) t:=λ v hv y r=>by
   refine aK (hi v hv) λ j ak=>?_;obtain rfl:=ak
   refine aK r λ t ak=>?_;obtain rfl:=ak
   exact⟨j,t,rfl,rfl⟩
  refine SeqRoads2.notIn_tuple (λ y=>match y with| .str j _=>j.cps.toList==(jn c).cps.toList|_=>false) (λ y hy=>?_) e1 (yZ (Q:=λ y=>PV B bH ro H s (QB Pb) y s) l1 (λ v hv y r=>?_) (λ q=>cr (t:=s.toks) R (h1 q)) λ q=>cr (t:=s.toks) R (h2 q))
  ·refine aG (l1.mem (Array.mem_toList_iff.mpr hy)) λ v hv r=>?_
   refine fh (str v hv y r) λ j t ak bA=>?_;obtain rfl:=ak;obtain rfl:=bA
   exact SeqRoads2.EqGives.str _ _ _ _
  ·refine fh (str v hv y r) λ j t ak bA=>?_;obtain rfl:=ak;obtain rfl:=bA
   show((jn j).cps.toList==(jn c).cps.toList)=true↔_
   rw[w7]
   exact⟨λ e=>congrArg V.str (gS e),λ e=>by injection e with e;exact dE e⟩
 |_=>exact h.elim
theorem y5(oa:j6 n A)(rx:RV B.Z s.heap v x)(ry:RV B.Z s.heap w y)(R:Rel B H s.heap)(h:Pp o v w Pb H):
  wpAny (model B.prog B.w) A (compareOp (Cq o) x y) (PV B bH ro H s (QB Pb)) dq s:=by
 cases o
 ·exact Kv rx ry R h
 ·exact Kw rx ry R h
 ·exact tE (λ q=>PySem.P.lt_int q) rx ry R h
 ·exact tE (λ q=>PySem.P.le_int q) rx ry R h
 ·exact tE (λ q=>PySem.P.gt_int q) rx ry R h
 ·exact Ky rx ry R h
 ·exact BH oa rx ry R h
 ·exact y4 (ne:=false) (λ q=>is_none q) rx ry R h
 ·exact y4 (ne:=true) (λ q=>isNot_none q) rx ry R h
end
end
theorem Di(h0:(Int.toNat x0)<x1):x0<((x1:Nat):Int):=Int.lt_of_le_of_lt (Int.self_le_toNat _) (jk h0)
theorem Kz(h0:x0=(1000000:Nat))(h1:x1<=x0)(h2:((-((x1:Nat):Int))<=x2/\x2<((x1:Nat):Int))):(-((2:Int)^63))<=x2:=Int.le_trans (Int.neg_le_neg (R5 h0 h1)) h2.1
theorem w8(h0:x0=(1000000:Nat))(h1:x1<=x0)(h2:x2<((x1:Nat):Int)):x2<((2:Int)^63):=Int.lt_of_lt_of_le h2 (R5 h0 h1)
theorem KA(h0:x0=(1000000:Nat))(h1:x1<=x0)(h2:((-((x1:Nat):Int))<=x2/\x2<((x1:Nat):Int))):x2<((2:Int)^63):=w8 h0 h1 h2.2
theorem KC(h0:x0=x1)(h1:(-((x1:Nat):Int))<=x2):(-((x0:Nat):Int))<=x2:=h0 ▸ h1
theorem KD(h0:((x0:Nat):Int)<((x1:Nat):Int)):x0<x1:=Int.ofNat_lt.mp h0
theorem KE(h0:x0=x1)(h1:x2<((x1:Nat):Int)):x2<((x0:Nat):Int):=h0 ▸ h1
section
variable {B : Base} {A : Around} {H : Mine.H} {s : Shared} {Q : V -> Mine.H -> Prop} {K : Mine.H -> Prop} {ro : Bool}
theorem y6(h:jH l i=some v):(0<=i/\i<l.length/\l[i.toNat]?=some v)\/(i<0/\-(l.length:Int)<=i/\l[(i+l.length).toNat]?=some v):=by
 unfold jH at h
 split at h
 ·have:=(fQ h).1
  exact .inl ⟨by assumption,by exact Di this,h⟩
 ·split at h
  ·exact .inr ⟨Int.not_le.mp (by assumption),by assumption,h⟩
  ·exact dD h
theorem zW(h:jH l i=some v):∃k,seqIndex? i l.length=some k/\l[k]?=some v:=by
 rcases y6 h with⟨h0,h1,e⟩|⟨h0,h1,e⟩
 ·exact⟨_,seqIndex_of h0 h1,e⟩
 ·exact⟨_,seqIndex_neg h0 h1,e⟩
theorem HJ(h:jH l i=some v):-(l.length:Int)<=i/\i<l.length:=by
 unfold jH at h
 split at h
 ·exact⟨Int.le_trans (Int.neg_nonpos_of_nonneg (g9 _)) (by assumption),Di (fQ h).1⟩
 ·split at h
  ·exact⟨by assumption,Int.lt_of_lt_of_le (Int.not_le.mp (by assumption)) (g9 _)⟩
  ·exact dD h
theorem eV{h:Heap}{l:List V}{xs:Array Value}(r:cx B.Z h l xs.toList){k:Nat}{v:V}(e:l[k]?=some v):∃x,xs[k]?=some x/\RV B.Z h v x:=by
 refine aG (r.get e) λ x a b=>?_
 exact⟨x,by simpa using a,b⟩
noncomputable def jv(x:Expr):Bool:=x.ctorIdx !=26
theorem di(h:jv e=true)(o i:Value):subscripted e false o i=operate [o,i] (getItem o i):=by
 cases e<;>first|rfl|cases h
theorem HK(oa:j6 n A)(hs:jv Cr=true)(rx:RV B.Z s.heap v x)(ry:RV B.Z s.heap w y)(R:Rel B H s.heap)(h:oD v w Q H):
  wpAny (model B.prog B.w) A (subscriptTail Rl Cr x y) (PV B bH ro H s Q) dq s:=by
 have hL:aZ=1000000:=rfl
 have hu:=oa.u
 unfold oD at h
 cases v with
 |tup l=>
  cases w with
  |int i=>
   refine aK ry λ u ak=>?_;obtain rfl:=ak
   refine aG h λ v hv h=>?_
   refine im (ie rx) λ u0 xs u0 ak bA=>?_;obtain rfl:=ak;refine gM bA λ e z r hsz=>?_
   ·have hsz:=hsz.symm
    refine aG (zW hv) λ k hk hg=>?_
    refine aG (eV r hg) λ x hx rv=>?_
    have hb:=HJ hv
    exact tail_any (T:="tuple") ⟨_,e,rfl⟩ F.slot_tuple_getitem.lookup (PySem.P.getItem_tuple e (by exact Kz hL z hb) (by exact KA hL z hb) (hsz ▸ hk) hx (gX R rv h)) (di hs _ _)
  |_=>exact h.elim
 |ref a=>
  obtain rfl:=rx.1
  obtain⟨o,v,hl,ho,h⟩:=h
  cases o with
  |list l=>
   cases w with
   |int i=>
    refine aK ry λ u ak=>?_;obtain rfl:=ak
    have hv:jH l i=some v:=ho
    refine lk (R.bS hl) λ xs n e z r hsz=>?_
    have hL:s.heap.IsList a xs:=⟨_,e,rfl,n,rfl⟩
    refine tail_any hL.typeIs PySem.slot_list_getitem.lookup ?_ (di hs _ _)
    rcases y6 hv with⟨h0,h1,q⟩|⟨h0,h1,q⟩
    ·refine aG (eV r q) λ x hx rv=>?_
     exact wpAny_getItem_list hL h0 (w8 rfl z h1) hx (gX R rv h)
    ·refine aG (eV r q) λ x hx rv=>?_
     exact wpAny_getItem_list_neg hL h0 (by exact KC hsz h1) (Int.le_trans (Int.neg_le_neg (R5 rfl z)) h1) (by rw[hsz];exact hx) (gX R rv h)
   |_=>exact dD ho
  |ao es=>
   cases w with
   |int i=>
    refine aK ry λ u ak=>?_;obtain rfl:=ak
    have hv:aE es i=some v:=ho
    refine aG (R.ee hl) λ bY hk rk=>?_
    rcases rk.look i with⟨q,_⟩|⟨v',x,q,q',rv⟩
    ·rw[hv] at q;exact AB q
    ·rw[hv] at q;obtain rfl:=c8 q
     have hm:=wG.map hk
     exact tail_any hm.typeIs PySem.slot_dict_getitem.lookup (wpAny_getItem_of (knd:=intKind B.prog B.w) (k:=i) (beq_self_eq_true i) hm q' (jS R rv h)) (di hs _ _)
   |_=>exact dD ho
  |b9 es=>
   cases w with
   |tup l=>
    have ho:(ib l).bind (aE es)=some v:=ho
    refine aG (Option.bind_eq_some_iff.mp ho) λ k hk hv=>?_
    refine aG (R.pD hl) λ xs hx rt=>?_
    refine im (id ry) λ b u0 u0 ak u0=>?_;obtain rfl:=ak
    rcases rt.look k with⟨q,_⟩|⟨v',a',x,q,q',rv⟩
    ·rw[hv] at q;exact AB q
    ·rw[hv] at q;obtain rfl:=c8 q
     exact tail_any hx.typeIs PySem.slot_dict_getitem.lookup (wpAny_getItem_heap (knd:=lI B.prog B.w) (k:=k) (p:=(a',x)) (by show A.in1.units<cLine;simp;exact ai [_,_,_] (Pl (Pl X0 (Nm 1)) (Nm 1)) X1 1 (Pl (Pl (Pl X0 (Ml 40 X2)) (Nm 100)) (Nm 1)) X1 rfl hu) (AT ry hk) hx q' (jS R rv h)) (di hs _ _)
   |_=>exact dD ho
  |inst c fs=>exact dD ho
 |_=>exact h.elim
theorem vj{prog:Program}{E:Value->Shared->Prop}{n:Nat}{k:Int}{Q:Unit->Shared->Prop}(ho:s.heap.get? l=some (dF items n))
  (h0:0<=k)(Jn:k<2^63)(hn:k<items.size)
  (hQ:Q () {s with heap:=s.heap.update l (Obj.mapSeq (·.setIfInBounds k.toNat v))}):
  wpAny (model prog w) A (setItem (.ref l) (.int k t) v) Q E s:=by
 have hl:s.heap.IsList l items:=⟨_,ho,rfl,n,rfl⟩
 unfold setItem
 try with_reducible refine wpAny_holding ?_
 first|refine aq (a8 ?_)|skip
 refine aq (wpAny_sequenceKey hl.typeIs (by decide) ?_)
 refine aq (wpAny_callSpecial?_slot (name:=Str.ofString "__setitem__") hl.typeIs PySem.slot_list_setitem
  (wpAny_call_entry PySem.slot_list_setitem hl.typeIs entry_list_setitem ?_ (args_list_setitem _ _ _)))
 show wpAny _ _ (Builtin.List.listSubscript? (.int k t)>>=_) _ _ s
 refine aq (wpAny_listSubscript_int (fitsIndex_of h0 Jn) ?_)
 clear Jn
 refine aK (Int.eq_ofNat_of_zero_le h0) λ j ak=>?_;obtain rfl:=ak
 have hj:j<items.size:=by exact KD hn
 have MU:items[j]?=some items[j]:=Array.getElem?_eq_getElem hj
 show wpAny _ _ ((seqItemAt l j>>=λ r=>pure (r.map (j,·)))>>=_) _ _ s
 refine aq (aq (wpAny_seqItemAt ho rfl (a8 ?_)))
 rw[MU]
 show wpAny _ _ (setSeqItemAt l j v>>=_) _ _ s
 refine aq (wpAny_setSeqItemAt ho rfl ?_)
 first
  |exact aq (a8 (a8 ⟨.none,rfl,a8 hQ⟩))
  |exact a8 ⟨.none,rfl,a8 hQ⟩
noncomputable def PU(B:Base)(F:Nat->Prop)(ro:Bool)(H:Mine.H)(s:Shared)(K:Mine.H->Prop):Unit->Shared->Prop:=
 λ u0 s'=>∃H',Rel B H' s'.heap/\Step B.Z F ro H s H' s'/\K H'
theorem iZ{O:Mine.O}(e:H a=some O)(h:∀c fs,O≠.inst c fs):¬bK H a:=λ hP=>by refine gN hP λ c fs q=>?_;rw[e] at q;obtain rfl:=c8 q;exact h _ _ rfl
theorem g8{O:Mine.O}(h:∀c fs,O≠.inst c fs):¬bK (aC H a O) a:=λ hP=>by refine gN hP λ c fs q=>?_;unfold aC at q;rw[if_pos rfl] at q;obtain rfl:=c8 q;exact h _ _ rfl
theorem f7{f:Array Value->Array Value}(R:Rel B H s.heap)(e:H a=some (.list l))(ho:s.heap.get? a=some (dF xs n))
  (hl:l'.length<=aZ)(r:∀h',dX B.Z s.heap h'->cx B.Z h' l' (f xs).toList)(ro:Bool):
  Rel B (aC H a (.list l')) (s.heap.update a (Obj.mapSeq f))/\Step B.Z bH ro H s (aC H a (.list l')) {s with heap:=s.heap.update a (Obj.mapSeq f),toks:=tk}:=by
 have ma:=IsL.update (n:=n) ho f
 exact R.write e (iZ e λ u0 u0=>nofun) (g8 λ u0 u0=>nofun) ho ma rfl (Heap.SameBut.update ..) (λ g=> .list ma hl (r _ g)) (.inl (λ q=>by injection q with q;revert q;decide))
theorem RL.map{α β γ δ:Type}{R:α->β->Prop}{R':γ->δ->Prop}{f:α->γ}{g:β->δ}(h:∀{a b},R a b->R' (f a) (g b)){l:List α}{ys:List β}(r:RL R l ys):RL R' (l.map f) (ys.map g):=r.ind (P:=λ l ys=>RL R' (l.map f) (ys.map g)) .nil λ a u0 b=> .cons (h a) b
theorem RL.app{α β:Type}{R:α->β->Prop}{l m:List α}{ys zs:List β}(r:RL R l ys)(q:RL R m zs):RL R (l++m) (ys++zs):=r.ind (P:=λ l ys=>RL R (l++m) (ys++zs)) q λ a u0 b=> .cons a b
theorem RK.put(k:Int)(rv:RV B.Z h v x){es bY}(r:RK B.Z h es bY):RK B.Z h (dT es k v) (stored bY k x):=by
 have an:(bY.any λ kv=>decide (kv.1=k))=(es.any λ kv=>decide (kv.1=k)):=RL.ind (P:=λ es bY=>(bY.any λ kv=>decide (kv.1=k))=(es.any λ kv=>decide (kv.1=k))) rfl (λ a u0 ih=>by rw[List.any_cons,List.any_cons,ih,a.1]) r
 unfold dT stored
 rw[an]
 split
 ·refine RL.map (λ{a b} e=>?_) r
  by_cases q:a.1=k
  ·rw[if_pos q,if_pos (e.1.trans q)];exact⟨e.1,rv⟩
  ·rw[if_neg q,if_neg λ f=>q (e.1.symm.trans f)];exact e
 ·exact RL.app r (.cons ⟨rfl,rv⟩ .nil)
theorem Ez{K:Type}[DecidableEq K](k:K):∀(es:List (K×V)),(es.any λ kv=>decide (kv.1=k))=(aE es k).isSome:=by
 intro xR
 induction xR with
 |nil=>
  exact rfl
 |cons pX es aU=>
  obtain⟨k',v⟩:=pX
  have:=aU
  unfold aE at this⊢
  simp only[List.any_cons,List.find?_cons]
  by_cases q:k'=k
  ·simp[q]
  ·simp[q];simpa using this
theorem RV.Nw(r:RV B.Z h (.tup l) (.ref b)):¬B.Z b:=by refine Vk r λ u0 u0 u0 e u0 q u0=>?_;injection e with u1;subst u1;exact q
theorem RT.length{es bY}(r:RT B.Z h es bY):bY.length=es.length:=RL.length r
theorem RT.put(k:List Ak)(a:Addr)(na:¬B.Z a)(rv:RV B.Z h v x){es bY}(r:RT B.Z h es bY):RT B.Z h (dT es k v) (storedH bY k a x):=by
 unfold dT
 rw[Ez]
 rcases r.look k with⟨q,q'⟩|⟨v',a',x',q,q',_⟩
 ·rw[storedH_new q',q];exact RL.app r (.cons ⟨rfl,na,rv⟩ .nil)
 ·rw[storedH_old q',q]
  refine RL.map (λ{a b} e=>?_) r
  unfold putAt
  by_cases q:a.1=k
  ·rw[if_pos q,if_pos (e.1.trans q)];exact⟨e.1,e.2.1,rv⟩
  ·rw[if_neg q,if_neg λ f=>q (e.1.symm.trans f)];exact e
set_option tactic.hygienic true in
theorem EB (oa : j6 n A) (rx : RV B.Z s.heap v x) (ri : RV B.Z s.heap k i) (ry : RV B.Z s.heap w y) (R : Rel B H s.heap) (h : nj v k w K H) :
    wpAny (model B.prog B.w) A (setItem x i y) (PU B bH false H s K) dq s := by
  have hL : aZ = 1000000 := rfl
  have hu := oa.u
  unfold nj at h
  refine im h λ a o o' ak bA => ?_; obtain rfl := ak; refine fy bA λ hd hp q => ?_
  obtain rfl := rx.1
  cases o with
  | list l =>
    cases k with
    | int j =>
      refine aK ri λ u ak => ?_; obtain rfl := ak
      have hp : (if 0 <= j /\ j < l.length then some (Mine.O.list (l.set j.toNat w)) else none) = some o' := hp
      split at hp
      · rename_i hj
        obtain rfl := c8 hp
        refine lk (R.bS hd) λ xs n e z r hsz => ?_
        obtain ⟨R', S⟩ := f7 (tk := s.toks) (f := (·.setIfInBounds j.toNat y)) (l' := l.set j.toNat w) R hd e (by rw [List.length_set]; exact z) (λ h' g => by
          rw [Array.toList_setIfInBounds]; exact (r.grow g).set _ (ry.grow g)) false
        exact vj e hj.1 (by have := hj.2; exact w8 hL z this) (by have := hj.2; exact KE hsz this) ⟨_, R', S, q⟩
      · exact dD hp
    | _ => exact dD hp
  | ao es =>
    cases k with
    | int j =>
      refine aK ri λ u ak => ?_; obtain rfl := ak
      have hp : (if es.length < aZ then some (Mine.O.ao (dT es j w)) else none) = some o' := hp
      split at hp
      · obtain rfl := c8 hp
        refine aG (R.ee hd) λ bY hk rk => ?_
        refine wpAny_setItem_pairs (knd := intKind B.prog B.w) (k := j) (beq_self_eq_true j) hk (λ h' DO hs => ?_) ?_
        · refine wu (id hk) λ ob eb V4 Pc xb _ => ?_
          refine wu (id DO) λ Pa V5 Qa FF Pd _ => ?_
          refine bV (R.write (O' := .ao (dT es j w)) (tk := s.toks + 1) (ro := false) hd (iZ hd λ _ _ => nofun) (g8 λ _ _ => nofun) Pc FF (Pd.1.trans xb.1.symm) hs (λ g => .ao DO ((rk.grow g).put j (ry.grow g))) (.inr rfl)) λ R' S => ?_
          exact ⟨_, R', S, q⟩
        · exact O9 rk.length (by assumption)
      · exact dD hp
    | _ => exact dD hp
  | b9 es =>
    cases k with
    | tup l =>
      have hp : (if es.length < aZ then (ib l).map (λ k => Mine.O.b9 (dT es k w)) else none) = some o' := hp
      split at hp
      · refine aG (Option.map_eq_some_iff.mp hp) λ k hk ak => ?_; obtain rfl := ak
        refine im (id ri) λ b _ _ ak _ => ?_; obtain rfl := ak
        refine aG (R.pD hd) λ xs hx rt => ?_
        refine wpAny_setItem_heap (knd := lI B.prog B.w) (k := k) (by show A.in1.units < cLine; simp; exact ai [_,_,_] (Pl (Pl X0 (Nm 1)) (Nm 1)) X1 1 (Pl (Pl (Pl X0 (Ml 40 X2)) (Nm 100)) (Nm 1)) X1 rfl hu) (AT ri hk) hx (λ h' DO hs => ?_) ?_
        · refine wu (id hx) λ ob eb V4 Pc xb _ => ?_
          refine wu (id DO) λ Pa V5 Qa FF Pd _ => ?_
          refine bV (R.write (O' := .b9 (dT es k w)) (tk := s.toks + (lI B.prog B.w).draws k) (ro := false) hd (iZ hd λ _ _ => nofun) (g8 λ _ _ => nofun) Pc FF (Pd.1.trans xb.1.symm) hs (λ g => .b9 DO ((rt.grow g).put k b (RV.Nw ri) (ry.grow g))) (.inr rfl)) λ R' S => ?_
          exact ⟨_, R', S, q⟩
        · exact O9 rt.length (by assumption)
      · exact dD hp
    | _ => exact dD hp
  | inst c fs => exact dD hp
end
theorem KG:¬((1:Int)<(0:Int)):=gS rfl
theorem KH:(-1:Int)<(0:Int):=gS rfl
theorem KI:(1:Int)>(0:Int):=gS rfl
theorem KJ:(Int.toNat ((0:Int)+(((x0:Nat):Int)*(1:Int))))=((0:Nat)+x0):=by rw[Int.zero_add,Int.mul_one,Nat.zero_add];rfl
section
variable {B : Base} {A : Around} {H : Mine.H} {s : Shared} {Q : V -> Mine.H -> Prop} {K : Mine.H -> Prop} {ro : Bool} {env : Env}
noncomputable def Nx(x:Expr):Bool:=(gK x).any λ c=>decide (c.1.1=.int 1)
noncomputable def Ny(x:Expr):Bool:=(O8 x).any λ q=>decide (q.1.1=.USub)&&Nx q.1.2.1
noncomputable def Cs(k:I6)(x:Expr):Bool:=(N1 x).any λ q=>match k with
 | .rev=>q.1.1.isNone&&q.1.2.1.isNone&&(xX q.1.2.2.1).any λ e=>Ny e.1
 | .tail=>(xX q.1.1).any (λ e=>Nx e.1)&&q.1.2.1.isNone&&q.1.2.2.1.isNone
 | .init=>q.1.1.isNone&&(xX q.1.2.1).any (λ e=>Ny e.1)&&q.1.2.2.1.isNone
theorem KL(h:(xX o).any (λ e=>Nx e.1)=true):∃k p,o=some (.Constant (.int 1) k p):=by
 refine aK (aw h) λ e h=>?_
 refine aK (aw h) λ c h=>?_
 exact⟨_,_,e.2.trans (congrArg some (c.2.trans (congrArg (λ v=>Expr.Constant v c.1.2.1 c.1.2.2) (uG h))))⟩
theorem y7(h:(xX o).any (λ e=>Ny e.1)=true):∃k p p',o=some (.UnaryOp .USub (.Constant (.int 1) k p) p'):=by
 refine aK (aw h) λ e h=>?_
 refine aK (aw h) λ q h=>?_
 refine aK (aw (bm h).2) λ c h2=>?_
 exact⟨_,_,_,e.2.trans (congrArg some ((q.2.trans (congrArg (λ o=>Expr.UnaryOp o q.1.2.1 q.1.2.2) (uG (bm h).1))).trans (congrArg (λ y=>Expr.UnaryOp .USub y q.1.2.2) (c.2.trans (congrArg (λ v=>Expr.Constant v c.1.2.1 c.1.2.2) (uG h2))))))⟩
theorem tF{x:Expr}(h:x=.Slice a b c p)(e:a=a')(f:b=b')(g:c=c'):x=.Slice a' b' c' p:=by rw[h,e,f,g]
theorem IK{α:Type}{o:Option α}(h:o.isNone=true):o=none:=Option.isNone_iff_eq_none.mp h
theorem KO(h:Cs k x=true):match k with
  | .rev=>∃c p p' q,x=.Slice none none (some (.UnaryOp .USub (.Constant (.int 1) c p) p')) q
  | .tail=>∃c p q,x=.Slice (some (.Constant (.int 1) c p)) none none q
  | .init=>∃c p p' q,x=.Slice none (some (.UnaryOp .USub (.Constant (.int 1) c p) p')) none q:=by
 refine aK (aw h) λ q h=>?_
 cases k with
 |rev=>refine ON (y7 (cu h).2.2) λ c p p' e=>?_;exact⟨c,p,p',_,tF q.2 (IK (cu h).1) (IK (cu h).2.1) e⟩
 |tail=>refine gN (KL (cu h).1) λ c p e=>?_;exact⟨c,p,_,tF q.2 e (IK (cu h).2.1) (IK (cu h).2.2)⟩
 |init=>refine ON (y7 (cu h).2.1) λ c p p' e=>?_;exact⟨c,p,p',_,tF q.2 (IK (cu h).1) e (IK (cu h).2.2)⟩
theorem tG{F:Nat->Prop}{H H':Mine.H}(R:Rel B H s.heap)(S:Step B.Z F ro H s H' s')(h:PV B F ro' H' s' Q y oB):PV B F (ro&&ro') H s Q y oB:=
 by refine lk h λ v H2 r R2 S2 q=>?_;exact⟨v,H2,r,R2,S.trans R S2,q⟩
theorem Dj{M:Model}{E Q':Value->Shared->Prop}{prog:Program}(h:∀t tk,Q' (.int (-1) t) {s with toks:=tk}):
  wpAny (model prog w) A (eval (.UnaryOp .USub (.Constant (.int 1) c p) p') env) Q' E s:=
 wpAny_UnaryOp (wpAny_Constant_int (PySem.P.neg_int (h _ _)))
theorem HL(items:Array Value):slicePick items none none (some (-1))=items.toList.reverse.toArray:=PySem.W.krv_pick items
theorem oz{prog:Program}{E Q:Value->Shared->Prop}(ht:IsTup s.heap t items)(hs:s.heap.IsSliceOf sl .none (.int (-1) u) .none)(h1:1<=items.size)
  (h:Q (.ref s.heap.objs.size) {s with heap:=s.heap.push {cls:=.type "tuple",data:=.seq (items.toList.dropLast).toArray}})
  (hsz:items.size<=sizeLine):wpAny (model prog w) A (getItem (.ref t) (.ref sl)) Q E s:=by
 have Ct:sizeOk (.seq (items.toList.dropLast).toArray):=by
  show(items.toList.dropLast).toArray.size<=sizeLine
  rw[List.size_toArray,List.length_dropLast,Array.length_toList]
  exact aS [_,_,_] X0 X1 1 X2 X1 1 X0 X2 rfl hsz (SO _ _)
 refine ik (id hs) λ os Sw CM Tr=>?_
 have Xy:s.TypeIs (.ref sl) "slice":=⟨os,Sw,CM⟩
 unfold getItem
 try with_reducible refine wpAny_holding ?_
 first|refine aq (a8 ?_)|skip
 refine aq (wpAny_sequenceKey ht.typeIs (by decide) ?_)
 refine aq (wpAny_callSpecial?_slot (name:=Str.ofString "__getitem__") ht.typeIs PyProof.Rows.slot_tuple_getitem
  (wpAny_call_entry PyProof.Rows.slot_tuple_getitem ht.typeIs PyProof.Rows.entry_tuple_getitem ?_ (PyProof.Rows.args_tuple_getitem _ _)))
 show wpAny _ _ (Builtin.Tuple.tupleItemsOf (.ref t)>>=_) _ _ s
 refine aq (tupleItemsOf_ ht ?_)
 refine aq (wpAny_typeOf Xy ?_)
 rw[if_pos (by decide)]
 have ap:∀{Q':Int×Int×Nat->Shared->Prop},Q' (0,1,items.size-1) s->wpAny (model prog w) A.in1 (Builtin.Slice.sliceApplied (.ref sl) (pure (items.size:Int))) Q' E s:=by
  intro Q' q
  unfold Builtin.Slice.sliceApplied Builtin.Slice.sliceFields
  refine aq (aq (wpAny_field Sw Tr (x:=.none) rfl (aq (wpAny_field Sw Tr (x:=.int (-1) u) rfl (aq (wpAny_field Sw Tr (x:=.none) rfl (a8 ?_)))))))
  refine aq (slicePart_none ?_)
  show wpAny _ _ (if((1:Int)==0)=true then _ else _) _ _ s
  rw[if_neg (by decide)]
  refine aq (slicePart_none (aq (slicePart_int (aq (a8 ?_)))))
  have e1:Builtin.Slice.sliceAdjust none (some (-1)) 1 (items.size:Int)=(0,((items.size-1:Nat):Int)):=by
   unfold Builtin.Slice.sliceAdjust
   have h1:¬((1:Int)<0):=by exact KG
   have h2:((-1:Int)<0):=by exact KH
   simp only[h1,h2,if_false,if_true]
   exact congrArg (Prod.mk (0:Int)) (WF (by assumption))
  have e2:Builtin.Slice.slicePlaces 0 ((items.size-1:Nat):Int) 1=items.size-1:=by
   unfold Builtin.Slice.slicePlaces
   have h1:(1:Int)>0:=by exact KI
   simp only[h1,if_true,Int.ediv_one]
   exact WG _
  show wpAny _ _ (match Builtin.Slice.sliceAdjust none (some (-1)) 1 (items.size:Int) with|(lo,hi)=>pure (lo,(1:Int),Builtin.Slice.slicePlaces lo hi 1)) _ _ s
  rw[e1]
  show wpAny _ _ (pure ((0:Int),(1:Int),Builtin.Slice.slicePlaces 0 ((items.size-1:Nat):Int) 1)) _ _ s
  rw[e2]
  exact a8 q
 refine aq (ap ?_)
 have Sh:¬(((0:Int)==0&&(1:Int)==1&&(items.size-1)==items.size)=true):=by
  have:((items.size-1)==items.size)=false:=by rw[beq_eq_false_iff_ne];exact Nat.ne_of_lt (ai [_,_] (Pl X0 (Nm 1)) X1 1 (Pl X0 (Nm 1)) X1 rfl (AA (ai [_] (Nm 1) X0 1 (Nm 1) X0 rfl h1)))
  rw[this];simp
 show wpAny _ _ (if((0:Int)==0&&(1:Int)==1&&(items.size-1)==items.size)=true then _ else _) _ _ s
 have pk:((List.range (items.size-1)).filterMap λ(k:Nat)=>items[((0:Int)+(k:Int)*1).toNat]?).toArray=(items.toList.dropLast).toArray:=by
  have e:(λ(k:Nat)=>items[((0:Int)+(k:Int)*1).toNat]?)=λ k=>items[0+k]?:=by
   funext k
   have:((0:Int)+(k:Int)*1).toNat=0+k:=by exact KJ
   rw[this]
  rw[e]
  have:=pick_run items 0 (items.size-1)
  rw[List.filterMap_map] at this
  have e2:((λ x=>items[x]?)∘λ x=>0+x)=λ k=>items[0+k]?:=rfl
  rw[e2] at this
  rw[this,List.drop_zero,List.dropLast_eq_take,Array.length_toList]
 rw[if_neg Sh,pk]
 first
  |exact aq (m:=Builtin.Tuple.tupleExact _) (wpAny_newObj_type (a8 ⟨_,rfl,a8 h⟩) Ct)
  |exact aq (m:=Builtin.Tuple.tupleExact _) (wpAny_newObj_type (aq (a8 (a8 ⟨_,rfl,a8 h⟩))) Ct)
  |exact aq (aq (m:=Builtin.Tuple.tupleExact _) (wpAny_newObj_type (a8 (a8 ⟨_,rfl,a8 h⟩)) Ct))
  |exact aq (aq (m:=Builtin.Tuple.tupleExact _) (wpAny_newObj_type (a8 ⟨_,rfl,a8 h⟩) Ct))
theorem Rel.push{H:Mine.H}(R:Rel B H s.heap)(o:Obj)(ro:Bool):Rel B H (s.heap.push o)/\Step B.Z bH ro H s H {s with heap:=s.heap.push o,toks:=tk}:=by
 refine bV (R.quiet (h':=s.heap.push o) (tk:=tk) (λ b o' e=>fR _ e)) λ a b=>?_
 exact⟨a,b.weaken λ u0=>rfl⟩
theorem HM(oa:j6 n A)(hs:Cs k Cr=true)(rx:RV B.Z s.heap v x)(R:Rel B H s.heap)(h:sJ k v Q H):
  wpAny (model B.prog B.w) A (eval Cr env) (λ i oI=>wpAny (model B.prog B.w) A (subscriptTail Rl Cr x i) (PV B bH ro H s Q) dq oI) dq s:=by
 have hL:aZ=1000000:=rfl
 have hz:sizeLine=2^24:=rfl
 have hs:=KO hs
 cases k
 case rev=>
  refine Vl hs λ c p p' q ak=>?_;obtain rfl:=ak
  unfold sJ at h
  refine fh h λ a l ak bA=>?_;obtain rfl:=ak;refine fy bA λ hl Xz h=>?_
  obtain rfl:=eI rx
  ·refine lk (R.bS hl) λ xs n e z r hsz=>?_
   refine wpAny_Slice ?_
   refine a8 (a8 ?_)
   refine Dj (M:=model B.prog B.w) (λ t tk=>?_)
   have hL:s.heap.IsList a xs:=⟨_,e,rfl,n,rfl⟩
   refine tail_any (T:="list") (ops:=[.ref a,.ref s.heap.objs.size]) (hL.push _).typeIs PySem.slot_list_getitem.lookup ?_ rfl
   refine bV (R.push (tk:=tk) {cls:=.type "slice",data:=.fields #[.none,.none,.int (-1) t]} ro) λ R' S=>?_
   refine wpAny_getItem_list_slice (lo:=none) (hi:=none) (st:=some (-1)) (hL.push _) (Heap.IsSliceOf.new ..) .none .none (.int _ _) (by decide) ?_ (O9 hsz Xz)
   have:=tG (ro':=ro) R S (sA (xs:=slicePick xs none none (some (-1))) (l:=l.reverse) (t:=tk) R' (by rw[List.length_reverse];exact z) (by rw[HL];exact(r.grow S.grow).reverse) h)
   rw[Bool.and_self] at this
   exact this
 case tail=>
  refine ON hs λ c p1 p2 ak=>?_;obtain rfl:=ak
  unfold sJ at h
  refine aG h λ l ak bA=>?_;obtain rfl:=ak;refine fy bA λ h0 u0 q=>?_
  refine im (ie rx) λ a xs n ak bA=>?_;obtain rfl:=ak;refine gM bA λ e z r hsz=>?_
  ·have hsz:=hsz.symm
   refine wpAny_Slice ?_
   refine wpAny_Constant_int (k:=c) (pos:=p1) (a8 (a8 ?_))
   refine bV (R.push (tk:=s.toks+1) {cls:=.type "slice",data:=.fields #[.int 1 s.toks,.none,.none]} ro) λ R' S=>?_
   have hT:IsTup s.heap a xs:=⟨_,e,rfl,n,rfl⟩
   refine tail_any (T:="tuple") (ops:=[.ref s.heap.objs.size,.ref a]) (hT.push _).typeIs F.slot_tuple_getitem.lookup ?_ rfl
   refine getItem_tuple_from (a:=1) (u:=s.toks) (hT.push _) (Heap.IsSliceOf.new ..) (by exact aL [] (Nm 1) (Nm 1) rfl) (by exact aS [_,_] (Nm 1) X0 1 (Pl (Nm 0) (Nm 1)) X1 1 X1 X0 rfl h0 (bw hsz)) ?_ (by exact nw [_,_,_,_] X0 X1 1 X2 (Nm 1000000) 1 (Nm (2^24)) X1 1 X3 X2 1 X0 X3 rfl (bw hL) (bw hz.symm) z (bw hsz.symm))
   have:=tG (ro':=ro) R S (wH (xs:=(xs.toList.drop 1).toArray) (l:=l.tail) (t:=s.toks+1) R' (by rw[List.length_tail];exact aS [_,_,_] X0 X1 1 X2 X1 1 X0 X2 rfl z (SO _ _)) (by rw[List.drop_one];exact(r.grow S.grow).tail) q)
   rw[Bool.and_self] at this
   exact this
 case init=>
  refine Vl hs λ c p p' q ak=>?_;obtain rfl:=ak
  unfold sJ at h
  refine aG h λ l ak bA=>?_;obtain rfl:=ak;refine fy bA λ h0 u0 q=>?_
  refine im (ie rx) λ a xs n ak bA=>?_;obtain rfl:=ak;refine gM bA λ e z r hsz=>?_
  ·have hsz:=hsz.symm
   refine wpAny_Slice ?_
   refine a8 ?_
   refine Dj (M:=model B.prog B.w) (λ t tk=>?_)
   refine a8 ?_
   refine bV (R.push (tk:=tk) {cls:=.type "slice",data:=.fields #[.none,.int (-1) t,.none]} ro) λ R' S=>?_
   have hT:IsTup s.heap a xs:=⟨_,e,rfl,n,rfl⟩
   refine tail_any (T:="tuple") (ops:=[.ref s.heap.objs.size,.ref a]) (hT.push _).typeIs F.slot_tuple_getitem.lookup ?_ rfl
   refine oz (u:=t) (hT.push _) (Heap.IsSliceOf.new ..) (by exact aS [_,_] (Nm 1) X0 1 (Pl (Nm 0) (Nm 1)) X1 1 X1 X0 rfl h0 (bw hsz)) ?_ (by exact nw [_,_,_,_] X0 X1 1 X2 (Nm 1000000) 1 (Nm (2^24)) X1 1 X3 X2 1 X0 X3 rfl (bw hL) (bw hz.symm) z (bw hsz.symm))
   have:=tG (ro':=ro) R S (wH (xs:=(xs.toList.dropLast).toArray) (l:=l.dropLast) (t:=tk) R' (by rw[List.length_dropLast];exact aS [_,_,_] X0 X1 1 X2 X1 1 X0 X2 rfl z (SO _ _)) ((r.grow S.grow).dropLast) q)
   rw[Bool.and_self] at this
   exact this
end
open PySem.W
structure KF (B:Base):Prop where
 pg:∀c n,plainGet B.K (B.ca c) n=true
 hd:∀c,hasDictIn B.K (B.ca c)=true
 no:∀c a,eW c a=none->findIn B.K (.ref (B.ca c)) (gz a)=some none
 me:∀c a f,eW c a=some f->findIn B.K (.ref (B.ca c)) (gz a)=some (some (.ref (B.fa f)))
 fn:∀f,isFn B.K (.ref (B.fa f))=true
 st:∀c,findIn B.K (.ref (B.ca c)) "__setattr__"=some (some (.builtin "object.__setattr__"))
 po:∀c,plainOver B.K (B.ca c)=true
 V6:∀c,makesIn B.K (B.ca c)=true
 V7:∀c,findIn B.K (.ref (B.ca c)) "__init__"=some (some (.ref (B.fa (B6 c))))
 kc:∀c,keepIn B.K (.ref (B.ca c))=true
 kf:∀f,keepIn B.K (.ref (B.fa f))=true
section
variable {B : Base} {A : Around} {H : Mine.H} {s : Shared} {Q : V -> Mine.H -> Prop} {K : Mine.H -> Prop} {ro : Bool} {env : Env}
theorem Rel.vp(R:Rel B H s.heap):B.K.In s.heap:=λ a o e=>R.base _ _ (B.X a o e)
theorem Rel.qG{h:Heap}(R:Rel B H h){a:Nat}{c:Ab}{fs:List (At×V)}(e:H a=some (.inst c fs)):
  ∃dx es n,h.get? a=some (instObj (B.ca c) dx)/\h.get? dx=some (iN es.toArray n)/\RF B.Z h fs es/\fs.length<=100/\∀p∈fs,eW c p.1=none:=(R.obj a _ e).2
theorem l8{a:Nat}(e1:h.get? a=some (instObj C dx))(e2:h.get? dx=some o):InstAt h a (instObj C dx) C (some o):=⟨e1,rfl,rfl,e2⟩
theorem BI:eM ((k,v)::fs) a=if k=a then some v else eM fs a:=by
 unfold eM
 rw[List.find?_cons]
 by_cases e:k=a
 ·rw[dE e,if_pos e];rfl
 ·rw[eY e,if_neg e]
theorem qH:uB a v ((k,w)::r)=if k=a then(a,v)::r else(k,w)::uB a v r:=rfl
theorem HN:(Value.str (gz k) t).isStr n=(gz k==n):=rfl
theorem RF.refKey{fs es}(r:RF B.Z h fs es):es.any (·.refKey)=false:=RL.ind (P:=λ u0 es=>es.any (·.refKey)=false) rfl (λ{a b u0 u0} e u0 ih=>by
 refine bV e λ ak u0=>?_;refine aK ak λ t e=>?_
 rw[List.any_cons,ih,show b.refKey=false by unfold DictEntry.refKey;rw[e]];rfl) r
theorem Ms{p:At×V}{e:DictEntry}{a:At}(h:∃t,e.key=.str (gz p.1) t):e.key.isStr (gz a)=decide (p.1=a):=by
 refine aK h λ t h=>?_
 rw[h,HN]
 by_cases q:p.1=a
 ·rw[dE q,q];exact beq_self_eq_true _
 ·rw[eY q];exact beq_eq_false_iff_ne.mpr λ e=>q (Kh e)
theorem RF.find(a:At){fs es}(r:RF B.Z h fs es):(eM fs a=none/\es.find? (·.key.isStr (gz a))=none)\/∃v e,eM fs a=some v/\es.find? (·.key.isStr (gz a))=some e/\RV B.Z h v e.val:=
 RL.ind (P:=λ fs es=>(eM fs a=none/\es.find? (·.key.isStr (gz a))=none)\/∃v e,eM fs a=some v/\es.find? (·.key.isStr (gz a))=some e/\RV B.Z h v e.val) (.inl ⟨rfl,rfl⟩) (λ{p e u0 u0} q u0 ih=>by
  rw[BI,List.find?_cons,Ms q.1]
  by_cases k:p.1=a
  ·rw[if_pos k,dE k];exact .inr ⟨_,_,rfl,rfl,q.2⟩
  ·rw[if_neg k,eY k];exact ih) r
theorem RF.get(a:At){fs es}(r:RF B.Z h fs es):(eM fs a=none/\getL (gz a) es=some none)\/∃v x,eM fs a=some v/\getL (gz a) es=some (some x)/\RV B.Z h v x:=by
 unfold getL
 rcases r.find a with⟨h1,h2⟩|⟨v,e,h1,h2,h3⟩
 ·rw[h2,r.refKey];exact .inl ⟨h1,rfl⟩
 ·rw[h2];exact .inr ⟨v,e.val,h1,rfl,h3⟩
theorem RF.put(a:At)(hs:Int)(t:Tok)(rv:RV B.Z h v x){fs es}(r:RF B.Z h fs es):RF B.Z h (uB a v fs) (putL (gz a) hs (.str (gz a) t) x es):=
 RL.ind (P:=λ fs es=>RF B.Z h (uB a v fs) (putL (gz a) hs (.str (gz a) t) x es)) (.cons rv .nil) (λ{p e u0 u0} q b ih=>by
  rw[qH]
  unfold putL
  rw[Ms q.1]
  by_cases k:p.1=a
  ·rw[if_pos k,dE k,if_pos rfl];exact RL.cons ⟨k ▸ q.1,rv⟩ b
  ·rw[if_neg k,eY k,if_neg kX];exact RL.cons q ih) r
theorem RF.length{fs es}(r:RF B.Z h fs es):es.length=fs.length:=RL.length r
theorem rS(a:At)(v:V):∀fs:List (At×V),(uB a v fs).length<=fs.length+1:=by
 intro xR
 induction xR with
 |nil=>
  exact bE 1
 |cons pX r aU=>
  obtain⟨k,w⟩:=pX
  rw[qH];split
  ·simp
  ·simpa using aU
theorem HO:∀{fs:List (At×V)},p∈uB a v fs->p.1=a\/p∈fs:=by
 intro xR
 induction xR with
 |nil=>
  intro m
  cases cP m;exact .inl rfl
 |cons pX r aU=>
  obtain⟨k,w⟩:=pX
  intro m
  rw[qH] at m
  split at m
  ·rcases ci m with rfl|m
   ·exact .inl rfl
   ·exact .inr (.tail _ m)
  ·rcases ci m with rfl|m
   ·exact .inr (.head _)
   ·exact(aU m).imp id (.tail _)
theorem RV.handed(r:RV B.Z h v x):handedIn x=true:=by
 cases v
 ·obtain rfl:=eX r;rfl
 ·obtain rfl:=lH r;rfl
 ·refine aK r λ u0 ak=>?_;obtain rfl:=ak;rfl
 ·refine aK r λ u0 ak=>?_;obtain rfl:=ak;rfl
 ·refine im r λ u0 u0 u0 ak u0=>?_;obtain rfl:=ak;rfl
 ·obtain rfl:=r.1;rfl
theorem EC(F:KF B)(R:Rel B H s.heap)(e:H a=some (.inst c fs))(hv:eM fs t=some v)(h:Q v H):
  wpAny (model B.prog B.w) A (getAttr (.ref a) (gz t) expr) (PV B bH ro H s Q) dq s:=by
 refine CH (R.qG e) λ dx es n e1 e2 rf z y=>?_
 have hm:eW c t=none:=by
  unfold eM at hv
  refine aG (Option.map_eq_some_iff.mp hv) λ p hp u0=>?_
  have:=y p (List.mem_of_find?_eq_some hp)
  have q:=List.find?_some hp
  simp only[decide_eq_true_eq] at q
  rw[←q];exact this
 rcases rf.get t with⟨h1,_⟩|⟨v',x,h1,h2,h3⟩
 ·rw[hv] at h1;exact AB h1
 ·rw[hv] at h1;obtain rfl:=c8 h1
  exact get_value R.vp (l8 e1 e2) (plainGet_of (F.pg c (gz t))).1 (findObj_own (F.hd c) (F.no c t hm) rfl (by show lookIn (gz t) (dictOf es n)=_;rw[lookIn_dict];exact h2)) h3.handed (jS R h3 h)
theorem ED(F:KF B)(R:Rel B H s.heap)(e:H a=some (.inst c fs))(ry:RV B.Z s.heap v y)(hm:eW c t=none)(hl:fs.length<100)
  (h:K (aC H a (.inst c (uB t v fs)))):wpAny (model B.prog B.w) A (setAttr (.ref a) (gz t) y) (PU B bH ro H s K) dq s:=by
 refine CH (R.qG e) λ dx es n e1 e2 rf z yf=>?_
 have I:=l8 e1 e2
 refine set_plain R.vp I (F.st c) ?_
 refine osa_open (s:={s with toks:=s.toks+1}) R.vp I (F.po c) (by unfold takerIn;rw[F.no c t hm];rfl) (r:=none) λ b=>?_
 refine aG (any_some (F.hd c)) λ cd hc XA=>?_
 have D':(s.heap.update dx (Obj.putName (gz t) (PyData.keyHash B.w.params (gz t)) (.str (gz t) (s.toks+1)) y)).get? dx=some (iN (putL (gz t) (PyData.keyHash B.w.params (gz t)) (.str (gz t) (s.toks+1)) y es).toArray (putN (gz t) es n)):=by
  have q:=putName_dict (gz t) (PyData.keyHash B.w.params (gz t)) (.str (gz t) (s.toks+1)) y es n
  have:=Heap.get?_update_self (Obj.putName (gz t) (PyData.keyHash B.w.params (gz t)) (.str (gz t) (s.toks+1)) y) e2 (by show Obj.isFreed (Obj.putName _ _ _ _ (dictOf es n))=false;rw[q];rfl)
  rw[this];exact congrArg some q
 have X':B.K.In ({s with toks:=s.toks+1}:Shared).heap:=R.vp
 refine aq (a8 (aq (aq (wpAny_loadPart e1 (aq (Looks.here (s:={s with toks:=s.toks+1}) (looks_clsIn X' hc) ?_))))))
 rw[XA]
 refine a8 (a:=some dx) (aq (a8 (aq ?_)))
 unfold nsSet
 refine aq (aq (wpAny_askSetting (a8 (aq (wpAny_mkText (aq (wpAny_loadPart e2 ?_)))))))
 dsimp only
 have c0:(!es.toArray.any (·.key.isStr (gz t))&&es.toArray.any (·.refKey))=false:=by
  rw[←Array.any_toList,←Array.any_toList,rf.refKey,Bool.and_false]
 rw[aRefKeyMayBeTheName_at,c0]
 refine wpAny_updatePart e2 ?_
 obtain⟨R',S⟩:=R.N6 (tk:=s.toks+1+1) (ro:=ro) e e1 e2 D' (Heap.SameBut.update ..) (λ g=>(rf.grow g).put t _ _ (ry.grow g)) (cV (rS ..) hl) (λ p hp=>by
  rcases HO hp with q|q
  ·rw[q];exact hm
  ·exact yf p q)
 have hz:sizeLine=2^24:=rfl
 refine aq (wpAny_lookBehind D' (by
  refine pastItsLine_dict ?_
  rw[List.size_toArray,RF.length ((rf.grow (dX.refl s.heap)).put t _ _ ry)]
  have:=rS t v fs
  exact fH [_,_,_] X0 (Pl X1 (Nm 1)) 1 X2 (Nm 100) 1 (Nm (2^24)) X1 1 X0 (Pl X2 (Nm 1)) rfl z (bw hz.symm) this) ?_)
 exact a8 ⟨_,R',S,h⟩
theorem EE(F:KF B){E:Value->Shared->Prop}{Q':Value×List Value->Shared->Prop}(R:Rel B H s.heap)(e:H a=some (.inst c fs))(hn:eM fs t=none)(hf:eW c t=some f)
  (h:Q' (.ref (B.fa f),[.ref a]) s):wpAny (model B.prog B.w) A (getMethod (.ref a) (gz t) pl) Q' E s:=by
 refine CH (R.qG e) λ dx es n e1 e2 rf z y=>?_
 have hl:getL (gz t) es=some none:=by
  rcases rf.get t with⟨_,h1⟩|⟨v',x,h1,_⟩
  ·exact h1
  ·rw[hn] at h1;exact dD h1
 have hp:=plainGet_of (F.pg c (gz t))
 exact method_fn R.vp (l8 e1 e2) hp.1 hp.2 (F.me c t f hf) (beq_iff_eq.mp (F.fn f)) (by show(lookIn (gz t) (dictOf es n)).map _=_;rw[lookIn_dict,hl];rfl) h
end
theorem KQ:¬(((x0:Nat):Int)<(0:Int)):=Int.not_lt.mpr (g9 _)
theorem KR(h0:((x0:Nat):Int)<((2:Int)^63)):¬(((x0:Nat):Int)≥((2:Int)^63)):=Int.not_le.mpr h0
theorem KS(h0:x0=(1000000:Nat))(h1:x1<=x0)(h2:x2=x1):((x2:Nat):Int)<((2:Int)^63):=Int.lt_of_le_of_lt (Int.ofNat_le.mpr (h0 ▸ h2 ▸ h1)) (gS rfl:((1000000:Nat):Int)<2^63)
theorem Dl(h0:x0=(1000000:Nat))(h1:x1<x0)(h2:x2=x1):((x2:Nat):Int)<((2:Int)^63):=Int.lt_of_lt_of_le (jk (h2 ▸ h1)) (R5 h0 (bE _))
theorem KU{x0 x1:Int}(h0:x0>x1):x1<=x0:=Int.le_of_lt h0
theorem KV{x0 x1:Int}(h0:¬(x0>x1)):x0<=x1:=Int.not_lt.mp h0
noncomputable def ya:Bi->Value
 | .len=> .builtin "len"| .listOf=> .type "list"| .tupleOf=> .type "tuple"| .any=> .builtin "any"| .max=> .builtin "max"| .int=> .type "int"| .dictOf=> .type "dict"
 | .append=> .builtin "list.append"| .extend=> .builtin "list.extend"| .uA=> .builtin "list.pop"| .iP=> .none| .get=> .builtin "dict.get"
section
variable {B : Base} {A : Around} {H : Mine.H} {s : Shared} {Q : V -> Mine.H -> Prop} {K : Mine.H -> Prop} {env : Env}
theorem r9(knd:HeapKind B.prog B.w (List Ak))(d:Addr)(hd:(d==sysModules)=false):
  MeetsIn B.prog B.w (Builtin.«dict.__len__» ⟨[.ref d],[]⟩) (λ u0 R s=>∃bY,s.heap.DictOfH knd d bY/\R (.ok (.ret (.int bY.length s.toks))) {s with toks:=s.toks+1}):=
 .of_wp λ A R s hP=>by
  refine aG hP λ bY hm h=>?_
  refine RX hm λ o es ep ho hc U4 he hk hn=>?_
  show wpAny _ _ (dictSize d>>=_) _ _ s
  unfold dictSize
  refine aq (aq (wpAny_dictEntries ho U4 (a8 ?_)))
  show wpAny _ _ (Builtin.Dict.pendingCount d>>=_) _ _ s
  refine aq (wpAny_pendingCount_other hd ?_)
  refine wpAny_ret_mkInt ?_
  rw[Nat.add_zero,size_of_entries he];exact h
theorem DictOfH.len(d:Addr)(knd:HeapKind B.prog B.w (List Ak)){E Q:Value->Shared->Prop}(hd:(d==sysModules)=false)(hm:s.heap.DictOfH knd d xs)(Jn:(xs.length:Int)<2^63)
  (h:Q (.int xs.length (s.toks+1)) {s with toks:=s.toks+1+1}):wpAny (model B.prog B.w) A (call (.builtin "len") [.ref d]) Q E s:=by
 refine Calls.call_function_entry kind_len plain_len entry_len (args_len1 _) ?_
 unfold Builtin.«len»
 refine aq (m:=oneArg "len" _) (a8 ?_)
 refine aq (m:=callSpecial? (.ref d) (Str.ofString "__len__")) (wpAny_callSpecial?_slot (name:=Str.ofString "__len__") hm.typeIs F.slot_dict_len
  (call_meetsIn F.slot_dict_len hm.typeIs F.entry_dict_len (F.args_dict_len_1 _) (r9 knd d hd) ⟨xs,hm,?_⟩))
 show wpAny _ _ _ _ _ {s with toks:=s.toks+1}
 refine aq (wpAny_holding (a8 ?_))
 refine aq (wpAny_letGo ?_)
 show wpAny _ _ (if((xs.length:Nat):Int)<0 then _ else _) _ _ _
 rw[if_neg (by exact KQ)]
 show wpAny _ _ (if((xs.length:Nat):Int)≥2^63 then _ else _) _ _ _
 rw[if_neg (by exact KR Jn)]
 exact aq (wpAny_mkInt (a8 ⟨_,rfl,h⟩))
theorem sB(R:Rel B H s.heap)(k:∀b o,s.heap.get? b=some o->h'.get? b=some o)(r:RV B.Z h' v y)(q:Q v H):
  PV B bH ro H s Q y {s with heap:=h',toks:=tk}:=by
 refine bV (R.quiet (tk:=tk) k) λ R' S=>?_
 exact⟨v,H,r,R',S.weaken λ u0=>rfl,q⟩
theorem mW(R:Rel B H s.heap)(hl:l.length<=aZ)(k:∀b o,s.heap.get? b=some o->h'.get? b=some o)
  (ha:¬aR s.heap a/\3<a)(ma:h'.get? a=some (dF xs n))(r:cx B.Z h' l xs.toList)(q:eH (.list l) Q H):PV B bH ro H s Q (.ref a) {s with heap:=h',toks:=tk}:=by
 obtain⟨hn,R',S⟩:=R.alloc (tk:=tk) (O:=.list l) k ha (.list (n:=n) ma hl r) (λ d hd=>by unfold aH at hd;rw[ma] at hd;exact dD hd)
 exact⟨.ref _,_,.ref ⟨_,ma⟩ (R.ql ha.1),R',S.weaken (λ u0=>rfl),fg q _ hn⟩
theorem cx.ux{xs:Array Value}(r:cx B.Z h l xs.toList):cx B.Z h l.dropLast (xs.eraseIdxIfInBounds (xs.size-1)).toList:=by
 have e:(xs.eraseIdxIfInBounds (xs.size-1)).toList=xs.toList.dropLast:=by
  unfold Array.eraseIdxIfInBounds
  split
  ·rw[Array.toList_eraseIdx,←Array.length_toList]
   rw[List.eraseIdx_eq_take_drop_succ,List.dropLast_eq_take,List.drop_eq_nil_of_le (by exact ai [_,_] X0 (Pl X1 (Nm 1)) 1 X0 (Pl X1 (Nm 1)) rfl (Az _ _)),eE]
  ·have:xs=#[]:=Array.eq_empty_of_size_eq_zero (Nat.eq_zero_of_not_pos λ q=>absurd (Nat.sub_lt q Nat.one_pos) (by assumption))
   subst this;rfl
 rw[e];exact r.dropLast
theorem cx.BJ{xs:Array Value}(r:cx B.Z h (v::l) xs.toList):cx B.Z h l (xs.eraseIdxIfInBounds 0).toList:=by
 have e:(xs.eraseIdxIfInBounds 0).toList=xs.toList.tail:=by
  unfold Array.eraseIdxIfInBounds
  split
  ·rw[Array.toList_eraseIdx,List.eraseIdx_zero]
  ·have:xs=#[]:=Array.eq_empty_of_size_eq_zero (Nat.eq_zero_of_not_pos (by assumption))
   subst this;rfl
 rw[e];exact r.tail
theorem RK.keys(r:RK B.Z h es bY):∀{xs:List Value},xs.length=es.length->(∀(i:Nat) (v:Value),xs[i]?=some v->∃k x,bY[i]?=some (k,x)/\∃t,v=Value.int k t)->cx B.Z h' (es.map λ p=>V.int p.1) xs:=
 RL.ind (P:=λ es bY=>∀{xs:List Value},xs.length=es.length->(∀(i:Nat) (v:Value),xs[i]?=some v->∃k x,bY[i]?=some (k,x)/\∃t,v=Value.int k t)->cx B.Z h' (es.map λ p=>V.int p.1) xs) (λ{xs} hl u0=>List.eq_nil_of_length_eq_zero hl) (λ{p q u0 u0} a u0 ih xs hl hx=>by
  cases xs with
  |nil=>injection hl
  |cons y l=>
   obtain⟨k,x,e,t,rfl⟩:=hx 0 y rfl
   have e:=c8 e
   exact .cons ⟨t,by rw[←a.1,e]⟩ (ih (Nat.succ.inj hl) λ i v e=>hx (i+1) v e)) r
theorem RK.without(k:Int)(r:RK B.Z h es bY):RK B.Z h (xQ es k) (PySem.without bY k):=
 RL.ind (P:=λ es bY=>RK B.Z h (xQ es k) (PySem.without bY k)) .nil (λ{p q u0 u0} a u0 ih=>by
  unfold xQ PySem.without
  by_cases e:p.1=k
  ·rw[qg (by simpa using e),qg (by simpa using a.1.trans e)];exact ih
  ·rw[rE (by simpa using e),rE (by simpa using λ f=>e (a.1.symm.trans f))];exact RL.cons a ih) r
noncomputable def sC:V->Bool
 | .bool true=>true
 |_=>false
theorem zX:sC v=true↔v=.bool true:=by
 cases v with
 |bool b=>cases b with
  |true=>exact⟨λ u0=>rfl,λ u0=>rfl⟩
  |false=>exact⟨λ h=>(nomatch h),λ h=>(nomatch h)⟩
 |_=>exact⟨λ h=>(nomatch h),λ h=>(nomatch h)⟩
theorem GH{xs:Array Value}(r:cx B.Z h l xs.toList):((List.range xs.size).any λ i=>(l[i]?).elim false sC)=true↔V.bool true∈l:=by
 have hs:xs.size=l.length:=by have:=r.length;simpa using this.symm
 rw[List.any_eq_true]
 constructor
 ·rintro⟨i,hi,e⟩
  have V8:i<l.length:=hs ▸ List.mem_range.mp hi
  rw[kH V8] at e
  exact zX.mp e ▸ List.getElem_mem V8
 ·intro m
  refine aK (List.mem_iff_getElem?.mp m) λ i e=>?_
  exact⟨i,List.mem_range.mpr (hs ▸ (fQ e).1),by rw[e];rfl⟩
theorem AU(h:CK b l Q H):(∃v,l=[v]/\xL b v Q H)\/(∃v w,l=[v,w]/\Ad b v w Q H)\/∃v w u,l=[v,w,u]/\MJ b v w u Q H:=by
 unfold CK at h
 cases l with
 |nil=>exact h.elim
 |cons v l=>cases l with
  |nil=>exact .inl ⟨v,rfl,h⟩
  |cons w l=>cases l with
   |nil=>exact .inr (.inl ⟨v,w,rfl,h⟩)
   |cons u l=>cases l with
    |nil=>exact .inr (.inr ⟨v,w,u,rfl,h⟩)
    |cons _ _=>exact h.elim
theorem KW{Q:V->Mine.H->Prop}{H:Mine.H}(n2:∀v w Q H,Ad b v w Q H->False)(n3:∀v w u Q H,MJ b v w u Q H->False)(h:CK b l Q H):∃v,l=[v]/\xL b v Q H:=by
 rcases AU h with h|⟨_,_,_,h⟩|⟨_,_,_,_,h⟩
 ·exact h
 ·exact(n2 _ _ _ _ h).elim
 ·exact(n3 _ _ _ _ _ h).elim
theorem Dm{Q:V->Mine.H->Prop}{H:Mine.H}(n1:∀v Q H,xL b v Q H->False)(n3:∀v w u Q H,MJ b v w u Q H->False)(h:CK b l Q H):∃v w,l=[v,w]/\Ad b v w Q H:=by
 rcases AU h with⟨_,_,h⟩|h|⟨_,_,_,_,h⟩
 ·exact(n1 _ _ _ h).elim
 ·exact h
 ·exact(n3 _ _ _ _ _ h).elim
theorem EF{v:V}{x:Value}{n:Nat}{ro:Bool}(_:j6 n A)(ra:RV B.Z s.heap v x)(R:Rel B H s.heap)(h:xL .len v Q H):wpAny (model B.prog B.w) A (call (ya .len) [x]) (PV B bH ro H s Q) dq s:=by
 have hL:aZ=1000000:=rfl
 have hz:sizeLine=2^24:=rfl
 unfold xL xS at h
 refine im h λ a o n ak bA=>?_;obtain rfl:=ak;refine gM bA λ ho hn hl q=>?_
 obtain rfl:=eI ra
 cases o with
 |list l=>
  obtain rfl:=c8 hn
  refine lk (R.bS ho) λ xs n e z r hsz=>?_
  refine Calls.call_len_list ⟨_,e,rfl,n,rfl⟩ (by exact KS hL z hsz) ?_
  rw[hsz];exact eL R q
 |ao es=>
  obtain rfl:=c8 hn
  refine aG (R.ee ho) λ bY hk rk=>?_
  have:=rk.length
  refine call_len_dict (R.gh ho) hk (by exact Dl hL hl this) ?_
  rw[this];exact eL R q
 |b9 es=>
  obtain rfl:=c8 hn
  refine aG (R.pD ho) λ xs hx rt=>?_
  have:=rt.length
  refine DictOfH.len _ _ (R.gh ho) hx (by exact Dl hL hl this) ?_
  rw[this];exact eL R q
 |inst c fs=>exact dD hn
set_option tactic.hygienic true in
theorem xH (oa : j6 n A) (ra : RV B.Z s.heap v x) (R : Rel B H s.heap) (h : xL .listOf v Q H) : wpAny (model B.prog B.w) A (call (ya .listOf) [x]) (PV B bH ro H s Q) dq s := by
  have hL : aZ = 1000000 := rfl
  have hz : sizeLine = 2 ^ 24 := rfl
  unfold xL iR at h
  cases v with
  | ref a =>
    obtain rfl := eI ra
    refine lk h λ o l ho hi hl q => ?_
    cases o with
    | list l =>
      obtain rfl := c8 hi
      refine lk (R.bS ho) λ xs n e z r hsz => ?_
      refine call_list_seq a (.inl rfl) e rfl rfl (λ h' c' k ma => ?_) (by exact nw [_,_,_,_] X0 X1 1 X2 (Nm 1000000) 1 (Nm (2 ^ 24)) X1 1 X3 X2 1 X0 X3 rfl (bw hL) (bw hz.symm) z (bw hsz))
      exact mW (tk := s.toks) R z k (R.rI (bE _)) ma (r.grow (dX.keeps k)) q
    | ao es =>
      obtain rfl := c8 hi
      refine aG (R.ee ho) λ bY hk rk => ?_
      refine aK hk.dictAt λ ep DO => ?_
      have cT := rk.length
      rw [dR] at hl
      refine kdl_call (kdl_dict (knd := intKind B.prog B.w) (R.gh ho)) oa.hh DO (by exact nw [_,_,_,_] X0 X1 1 X2 (Nm 1000000) 1 (Nm (2 ^ 24)) X1 1 (Pl X3 (Nm 1)) X2 1 X0 X3 rfl (bw hL) (bw hz.symm) hl (bw cT)) λ h' tk YJ c' k ma it => ?_
      refine mW R (by rw [dR]; exact ai [_,_] X0 X1 1 (Pl X0 (Nm 1)) X1 rfl hl) k (R.rI (bE _)) ma ?_ q
      refine rk.keys (by rw [Array.length_toList, it.1]; exact cT) λ i v e => ?_
      refine fh (it.2 i v (by rw [← Array.getElem?_toList]; exact e)) λ k x e1 e2 => ?_
      refine ⟨k, x, e1, ?_⟩
      cases v <;> first | (exact kK e2; done) | skip
      rename_i j t
      exact ⟨t, by rw [gS e2]⟩
    | b9 es => exact dD hi
    | inst c fs => exact dD hi
  | tup l =>
    refine im (ie ra) λ a xs n ak bA => ?_; obtain rfl := ak; refine gM bA λ e z r hsz => ?_
    refine call_list_seq a (.inr rfl) e rfl rfl (λ h' c' k ma => ?_) (by exact nw [_,_,_,_] X0 X1 1 X2 (Nm 1000000) 1 (Nm (2 ^ 24)) X1 1 X3 X2 1 X0 X3 rfl (bw hL) (bw hz.symm) z (bw hsz))
    exact mW (tk := s.toks) R z k (R.rI (bE _)) ma (r.grow (dX.keeps k)) h.2
  | _ => exact h.elim
theorem vk{v:V}{x:Value}{n:Nat}{ro:Bool}(_:j6 n A)(ra:RV B.Z s.heap v x)(R:Rel B H s.heap)(h:xL .tupleOf v Q H):wpAny (model B.prog B.w) A (call (ya .tupleOf) [x]) (PV B bH ro H s Q) dq s:=by
 have hL:aZ=1000000:=rfl
 have hz:sizeLine=2^24:=rfl
 unfold xL ph at h
 refine fh h λ a l ak bA=>?_;obtain rfl:=ak;refine fy bA λ hl hn q=>?_
 obtain rfl:=eI ra
 refine lk (R.bS hl) λ xs n e z r hsz=>?_
 refine call_tuple_list ⟨_,e,rfl,n,rfl⟩ (λ h' k=>?_) (by exact nw [_,_,_,_] X0 X1 1 X2 (Nm 1000000) 1 (Nm (2^24)) X1 1 X3 X2 1 X0 X3 rfl (bw hL) (bw hz.symm) z (bw hsz))
 have ma:(h'.push (uH xs 0)).get? h'.objs.size=some (uH xs 0):=fW _ rfl
 have kk:∀b o,s.heap.get? b=some o->(h'.push (uH xs 0)).get? b=some o:=λ b o e=>fR _ (k b o e)
 exact sB (tk:=s.toks) R kk (.tup ma (R.ql (R.new k (bE _)).1) z (r.grow (dX.keeps kk))) q
theorem EG(oa:j6 n A)(ra:RV B.Z s.heap v x)(R:Rel B H s.heap)(h:xL .any v Q H):wpAny (model B.prog B.w) A (call (ya .any) [x]) (PV B bH ro H s Q) dq s:=by
 unfold xL I8 at h
 refine fh h λ a l ak bA=>?_;obtain rfl:=ak;refine RW bA λ hl hb u0 h1 h2=>?_
 obtain rfl:=eI ra
 refine lk (R.bS hl) λ xs n e z r hsz=>?_
 have Pe:s.heap.IsList a xs:=⟨_,e,rfl,n,rfl⟩
 refine call_any_walk (wpAny_pyIter_list Pe ?_)
 refine⟨s.heap.objs.size,[s.heap.objs.size,a],[s.heap.objs.size],xs.size,_,_,λ i=>(l[i]?).elim false sC,rfl,Walks.list (A:=A.in1) oa.hh _ a (Nat.ne_of_lt (iI e)) xs,
  ⟨⟨_,fW _ rfl,rfl,rfl⟩,Pe.push _⟩,λ i v s' Q' E' hP hQ=>?_,λ h' tk hk=>?_⟩
 ·have CQ:i<l.length:=by
   rw[←hsz]
   exact(Array.getElem?_eq_some_iff.mp hP).1
  have el:l[i]?=some l[i]:=kH CQ
  refine aG (r.get el) λ y e1 e2=>?_
  rw[Array.getElem?_toList,hP] at e1
  obtain rfl:=c8 e1
  have Sx:=hb _ (List.getElem_mem CQ)
  simp only[el,Option.elim_some] at hQ
  revert e2 Sx hQ
  cases l[i] with
  |bool b=>
   intro e2 Sx hQ
   obtain rfl:=lH e2
   refine wpAny_truthy_bool ?_
   cases b<;>exact hQ
  |_=>intro e2 Sx hQ;exact Sx.elim
 ·have kk:∀b o,s.heap.get? b=some o->h'.get? b=some o:=λ b o e=>hk b o (λ hm=>by rw[cP hm] at e;exact Nat.lt_irrefl _ (iI e)) (fR _ e)
  by_cases q:V.bool true∈l
  ·rw[(GH r).mpr q];exact sB R kk .bool (h1 q)
  ·have:((List.range xs.size).any λ i=>(l[i]?).elim false sC)=false:=by
    rw[Bool.eq_false_iff];exact λ q'=>q ((GH r).mp q')
   rw[this];exact sB R kk .bool (h2 q)
theorem EH(oa:j6 n A)(ra:RV B.Z s.heap v x)(rb:RV B.Z s.heap w y)(R:Rel B H s.heap)(h:Ad .max v w Q H):wpAny (model B.prog B.w) A (call (ya .max) [x,y]) (PV B bH ro H s Q) dq s:=by
 have hL:aZ=1000000:=rfl
 have hz:sizeLine=2^24:=rfl
 unfold Ad Pq at h
 cases v with
 |int a=>
  cases w with
  |int b=>
   refine aK (rn ra) λ t ak=>?_;obtain rfl:=ak
   refine aK (rn rb) λ u ak=>?_;obtain rfl:=ak
   refine max_two_ints oa.hh λ h' tk k=>?_
   have e:(if b>a then Value.int b u else .int a t)=.int (max a b) (if b>a then u else t):=by
    by_cases q:b>a
    ·rw[if_pos q,if_pos q,Int.max_eq_right (by exact KU q)]
    ·rw[if_neg q,if_neg q,Int.max_eq_left (by exact KV q)]
   rw[e];exact sB R k .int h
  |_=>exact h.elim
 |_=>exact h.elim
theorem EI{v:V}{x:Value}{n:Nat}{ro:Bool}(_:j6 n A)(ra:RV B.Z s.heap v x)(R:Rel B H s.heap)(h:xL .int v Q H):wpAny (model B.prog B.w) A (call (ya .int) [x]) (PV B bH ro H s Q) dq s:=by
 unfold xL Pr at h
 cases v with
 |bool b=>
  obtain rfl:=lH ra
  exact call_int_bool (eL R h)
 |_=>exact h.elim
theorem xI{v w:V}{x y:Value}{n:Nat}{ro:Bool}(_:j6 n A)(ra:RV B.Z s.heap v x)(rb:RV B.Z s.heap w y)(R:Rel B H s.heap)(h:Ad .append v w Q H):wpAny (model B.prog B.w) A (call (ya .append) [x,y]) (PV B bH ro H s Q) dq s:=by
 have hL:aZ=1000000:=rfl
 have hz:sizeLine=2^24:=rfl
 unfold Ad oZ at h
 refine fh h λ a l ak bA=>?_;obtain rfl:=ak;refine fy bA λ hl hn q=>?_
 obtain rfl:=eI ra
 refine lk (R.bS hl) λ xs n e z r hsz=>?_
 obtain⟨R',S⟩:=f7 (tk:=s.toks) (f:=λ xs=>xs.push _) (l':=l++[w]) R hl e (by rw[eQ,List.length_singleton];exact ai [_,_] (Pl X0 (Nm 1)) X1 1 (Pl X0 (Nm 1)) X1 rfl hn) (λ h' g=>by
  rw[Array.toList_push];exact(r.grow g).append (.cons (rb.grow g) .nil)) ro
 exact call_meets F.slot_list_append ⟨_,e,rfl⟩ F.entry_list_append (F.args_list_append_2 _ _) (list_append a xs n _ (by exact nw [_,_,_,_] X0 X1 1 X2 (Nm 1000000) 1 (Nm (2^24)) X1 1 X3 X2 1 X0 X3 rfl (bw hL) (bw hz.symm) z (bw hsz))) ⟨e,⟨_,_,.none,R',S,q⟩⟩
theorem xJ{v w:V}{x y:Value}{n:Nat}{ro:Bool}(_:j6 n A)(ra:RV B.Z s.heap v x)(rb:RV B.Z s.heap w y)(R:Rel B H s.heap)(h:Ad .extend v w Q H):wpAny (model B.prog B.w) A (call (ya .extend) [x,y]) (PV B bH ro H s Q) dq s:=by
 have hL:aZ=1000000:=rfl
 have hz:sizeLine=2^24:=rfl
 unfold Ad mL at h
 refine fh h λ a l ak bA=>?_;obtain rfl:=ak;refine bV bA λ hl h=>?_
 obtain rfl:=eI ra
 refine lk (R.bS hl) λ xs n e z r hsz=>?_
 cases w with
 |tup m=>
  refine bV h λ hn q=>?_
  refine im (ie rb) λ b ys n2 ak bA=>?_;obtain rfl:=ak;refine gM bA λ e2 z2 r2 Ag=>?_
  obtain⟨R',S⟩:=f7 (tk:=s.toks) (f:=λ xs=>xs++ys) (l':=l++m) R hl e (by rw[eQ];exact ai [_,_,_] (Pl X0 X1) X2 1 (Pl (Pl X0 X1) (Nm 1)) X2 rfl hn) (λ h' g=>by
   rw[Array.toList_append];exact(r.grow g).append (r2.grow g)) ro
  refine call_meets F.slot_list_extend ⟨_,e,rfl⟩ F.entry_list_extend (F.args_list_extend_2 _ _) (AutoSeq1.list_extend_list_tuple_0 a xs n b ys n2 ?_ (by exact nw [_,_,_,_,_] X0 X1 1 X2 (Nm 1000000) 1 (Nm (2^24)) X1 1 X0 X3 1 (Pl (Pl X3 X4) (Nm 1)) X2 rfl (bw hL) (bw hz.symm) (bw hsz) hn) (by exact I5 [_,_,_,_,_,_] (Pl X0 X1) (Pl X2 (Nm 1)) 1 X3 (Nm 1000000) 1 (Nm (2^24)) X2 1 X0 X4 1 (Pl (Pl X4 X5) (Nm 1)) X3 1 X1 X5 rfl (bw hL) (bw hz.symm) (bw hsz) hn (bw Ag))) ⟨e,e2,⟨_,_,.none,R',S,q⟩⟩
  exact λ q=>absurd (gS (Bool.and_eq_true_iff.mp q).2) (Nat.not_lt.mpr (O9 (congr (congrArg HAdd.hAdd hsz) Ag) hn))
 |ref b=>
  obtain⟨Sz,m,hm,hn,q⟩:=h
  obtain rfl:=eI rb
  refine lk (R.bS hm) λ ys n2 e2 z2 r2 Ag=>?_
  obtain⟨R',S⟩:=f7 (tk:=s.toks) (f:=λ xs=>xs++ys) (l':=l++m) R hl e (by rw[eQ];exact ai [_,_,_] (Pl X0 X1) X2 1 (Pl (Pl X0 X1) (Nm 1)) X2 rfl hn) (λ h' g=>by
   rw[Array.toList_append];exact(r.grow g).append (r2.grow g)) ro
  refine call_meets F.slot_list_extend ⟨_,e,rfl⟩ F.entry_list_extend (F.args_list_extend_2 _ _) (AutoSeq1.list_extend_list_list_0 a xs n b ys n2 ?_ (by exact nw [_,_,_,_,_] X0 X1 1 X2 (Nm 1000000) 1 (Nm (2^24)) X1 1 X0 X3 1 (Pl (Pl X3 X4) (Nm 1)) X2 rfl (bw hL) (bw hz.symm) (bw hsz) hn) (by exact I5 [_,_,_,_,_,_] (Pl X0 X1) (Pl X2 (Nm 1)) 1 X3 (Nm 1000000) 1 (Nm (2^24)) X2 1 X0 X4 1 (Pl (Pl X4 X5) (Nm 1)) X3 1 X1 X5 rfl (bw hL) (bw hz.symm) (bw hsz) hn (bw Ag))) ⟨e,e2,⟨_,_,.none,R',S,q⟩⟩
  exact λ q=>absurd (gS (Bool.and_eq_true_iff.mp q).2) (Nat.not_lt.mpr (O9 (congr (congrArg HAdd.hAdd hsz) Ag) hn))
 |_=>exact h.elim
theorem BK{v:V}{x:Value}{n:Nat}{ro:Bool}(_:j6 n A)(ra:RV B.Z s.heap v x)(R:Rel B H s.heap)(h:xL .uA v Q H):wpAny (model B.prog B.w) A (call (ya .uA) [x]) (PV B bH ro H s Q) dq s:=by
 have hL:aZ=1000000:=rfl
 have hz:sizeLine=2^24:=rfl
 unfold xL B5 at h
 refine im h λ a l w ak bA=>?_;obtain rfl:=ak;refine fy bA λ hl hn q=>?_
 obtain rfl:=eI ra
 refine lk (R.bS hl) λ xs n e z r hsz=>?_
 refine aG (eV r (k:=l.length) (v:=w) (by rw[wf (bE _),Nat.sub_self];rfl)) λ y hy ry=>?_
 rw[eQ,List.length_singleton] at hsz z
 rw[show l.length=xs.size-1 by exact dP (aS [_,_,_] X0 X1 1 (Pl X0 (Nm 1)) X2 1 X2 (Pl X1 (Nm 1)) rfl (bw hsz.symm) (Az _ _)) (aS [_,_,_] X0 X1 1 X2 (Pl X1 (Nm 1)) 1 (Pl X0 (Nm 1)) X2 rfl (bw hsz) (AA (ai [_,_] (Nm 1) X0 1 (Pl X1 (Nm 1)) X0 rfl (bw hsz.symm))))] at hy
 obtain⟨R',S⟩:=f7 (tk:=s.toks) (f:=λ ys=>ys.eraseIdxIfInBounds (xs.size-1)) (l':=l) R hl e (by exact ai [_,_] X0 X1 1 (Pl X0 (Nm 1)) X1 rfl z) (λ h' g=>by have:=(r.grow g).ux;rw[List.dropLast_concat] at this;exact this) ro
 exact call_meets F.slot_list_pop ⟨_,e,rfl⟩ F.entry_list_pop (F.args_list_pop_1 _) (MeetsSeq.list_pop_last a xs n y hy (by exact nw [_,_,_,_] X0 X1 1 X2 (Nm 1000000) 1 (Nm (2^24)) X1 1 (Pl X3 (Nm 1)) X2 1 X0 (Pl X3 (Nm 1)) rfl (bw hL) (bw hz.symm) z (bw hsz))) ⟨e,⟨w,_,ry.grow S.grow,R',S,q⟩⟩
theorem EJ{v w u:V}{x y z:Value}{n:Nat}{ro:Bool}(_:j6 n A)(ra:RV B.Z s.heap v x)(rb:RV B.Z s.heap w y)(rc:RV B.Z s.heap u z)(R:Rel B H s.heap)(h:MJ .get v w u Q H):wpAny (model B.prog B.w) A (call (ya .get) [x,y,z]) (PV B bH ro H s Q) dq s:=by
 unfold MJ Fi at h
 refine im h λ a es i ak bA=>?_;obtain rfl:=ak;refine bV bA λ Fd MV=>?_;obtain rfl:=Fd;refine bV MV λ XB XC=>?_;obtain rfl:=XB;refine bV XC λ hd h=>?_
 obtain rfl:=eI ra
 obtain rfl:=eX rc
 refine aK (rn rb) λ t ak=>?_;obtain rfl:=ak
 refine aG (R.ee hd) λ bY hk rk=>?_
 have hm:=wG.map hk
 refine call_meetsIn F.slot_dict_get hm.typeIs F.entry_dict_get (F.args_dict_get_3 _ _ _) (meets_dict_get_default (k:=i) (intKind B.prog B.w) a (by exact beq_self_eq_true i) (R.gh hd) .none) ⟨_,hm,?_⟩
 rcases rk.look i with⟨q,q'⟩|⟨v,x,q,q',rv⟩
 ·rw[q] at h;rw[q'];exact jS R .none h
 ·rw[q] at h;rw[q'];exact jS R rv h
theorem KX(oa:j6 n A)(hb:b≠.iP)(I0:b≠.dictOf)(ra:RV B.Z s.heap v x)(R:Rel B H s.heap)(h:xL b v Q H):wpAny (model B.prog B.w) A (call (ya b) [x]) (PV B bH ro H s Q) dq s:=by
 cases b
 ·exact EF oa ra R h
 ·exact xH oa ra R h
 ·exact vk oa ra R h
 ·exact EG oa ra R h
 ·exact h.elim
 ·exact EI oa ra R h
 ·exact absurd rfl I0
 ·exact h.elim
 ·exact h.elim
 ·exact BK oa ra R h
 ·exact absurd rfl hb
 ·exact h.elim
theorem KY(oa:j6 n A)(hb:b≠.iP)(I0:b≠.dictOf)(ra:RV B.Z s.heap v x)(rb:RV B.Z s.heap w y)(R:Rel B H s.heap)(h:Ad b v w Q H):wpAny (model B.prog B.w) A (call (ya b) [x,y]) (PV B bH ro H s Q) dq s:=by
 cases b
 ·exact h.elim
 ·exact h.elim
 ·exact h.elim
 ·exact h.elim
 ·exact EH oa ra rb R h
 ·exact h.elim
 ·exact absurd rfl I0
 ·exact xI oa ra rb R h
 ·exact xJ oa ra rb R h
 ·exact h.elim
 ·exact absurd rfl hb
 ·exact h.elim
theorem KZ(oa:j6 n A)(hb:b≠.iP)(I0:b≠.dictOf)(ra:RV B.Z s.heap v x)(rb:RV B.Z s.heap w y)(rc:RV B.Z s.heap u z)(R:Rel B H s.heap)(h:MJ b v w u Q H):wpAny (model B.prog B.w) A (call (ya b) [x,y,z]) (PV B bH ro H s Q) dq s:=by
 cases b
 ·exact h.elim
 ·exact h.elim
 ·exact h.elim
 ·exact h.elim
 ·exact h.elim
 ·exact h.elim
 ·exact absurd rfl I0
 ·exact h.elim
 ·exact h.elim
 ·exact h.elim
 ·exact absurd rfl hb
 ·exact EJ oa ra rb rc R h
theorem o8(oa:j6 n A)(hb:b≠.iP)(I0:b≠.dictOf)(rs:cx B.Z s.heap l xs)(R:Rel B H s.heap)(h:CK b l Q H):
  wpAny (model B.prog B.w) A (call (ya b) xs) (PV B bH ro H s Q) dq s:=by
 replace h:=AU h
 rcases h with⟨v,rfl,h⟩|⟨v,w,rfl,h⟩|⟨v,w,u,rfl,h⟩
 ·refine aG (DI rs) λ x ak ra=>?_;obtain rfl:=ak;exact KX oa hb I0 ra R h
 ·refine fh (Jl rs) λ x y ak bA=>?_;obtain rfl:=ak;refine bV bA λ ra rb=>?_;exact KY oa hb I0 ra rb R h
 ·refine im (U1 rs) λ x y z ak bA=>?_;obtain rfl:=ak;refine fy bA λ ra rb rc=>?_;exact KZ oa hb I0 ra rb rc R h
theorem uy(hl:H a=some (.list l))(ry:RV B.Z s.heap k y)(R:Rel B H s.heap)(h:CK .iP [.ref a,k] Q H):
  wpAny (model B.prog B.w) A (call (.builtin "list.pop") [.ref a,y]) (PV B bH ro H s Q) dq s:=by
 have hL:aZ=1000000:=rfl
 have hz:sizeLine=2^24:=rfl
 unfold CK Ad oM at h
 rcases h with⟨a',v,l',e1,rfl,Ae,cT,h⟩|⟨a',es,i,w,e1,rfl,hd,_⟩
 ·injection e1 with u1;subst u1
  rw[hl] at Ae;cases Ae
  refine aK (rn ry) λ u ak=>?_;obtain rfl:=ak
  refine lk (R.bS hl) λ xs n e z r hsz=>?_
  rw[List.length_cons] at hsz z
  refine aG (eV r (k:=0) (v:=v) rfl) λ y hy ry=>?_
  refine bV (f7 (tk:=s.toks) (f:=λ ys=>ys.eraseIdxIfInBounds 0) (l':=l') R hl e (by exact ai [_,_] X0 X1 1 (Pl X0 (Nm 1)) X1 rfl z) (λ h' g=>(r.grow g).BJ) ro) λ R' S=>?_
  exact call_meets F.slot_list_pop ⟨_,e,rfl⟩ F.entry_list_pop (F.args_list_pop_2 _ _) (MeetsSeq.list_pop_at a xs n 0 u 0 y (by decide) (by unfold seqIndex?;rw[hsz];simp) hy (by exact nw [_,_,_,_] X0 X1 1 X2 (Nm 1000000) 1 (Nm (2^24)) X1 1 (Pl X3 (Nm 1)) X2 1 X0 (Pl X3 (Nm 1)) rfl (bw hL) (bw hz.symm) z (bw hsz))) ⟨e,⟨v,_,ry.grow S.grow,R',S,h⟩⟩
 ·injection e1 with u1;subst u1
  rw[hl] at hd;cases hd
theorem uz(hl:H a=some (.ao es))(ry:RV B.Z s.heap k y)(R:Rel B H s.heap)(h:CK .iP [.ref a,k] Q H):
  wpAny (model B.prog B.w) A (call (.builtin "dict.pop") [.ref a,y]) (PV B bH false H s Q) dq s:=by
 have hL:aZ=1000000:=rfl
 have hz:sizeLine=2^24:=rfl
 unfold CK Ad oM at h
 rcases h with⟨a',v,l',e1,rfl,Ae,cT,h⟩|⟨a',tX,i,v,e1,rfl,hd,cT,hv,h⟩
 ·injection e1 with u1;subst u1
  rw[hl] at Ae;cases Ae
 ·injection e1 with u1;subst u1
  rw[hl] at hd;cases hd
  refine aK (rn ry) λ u ak=>?_;obtain rfl:=ak
  refine aG (R.ee hl) λ bY hk rk=>?_
  have XD:=rk.length
  rcases rk.look i with⟨q,_⟩|⟨v',x,q,q',rv⟩
  ·rw[hv] at q;exact AB q
  rw[hv] at q;obtain rfl:=c8 q
  refine call_meetsIn F.slot_dict_pop hk.typeIs F.entry_dict_pop (F.args_dict_pop_2 _ _) (meets_dict_pop_there (k:=i) (intKind B.prog B.w) a (by exact beq_self_eq_true i) [] (.inl rfl) (by rfl)) ⟨bY,x,hk,by exact nw [_,_,_,_] X0 X1 1 X2 (Nm 1000000) 1 (Nm (2^24)) X1 1 (Pl X3 (Nm 1)) X2 1 X0 X3 rfl (bw hL) (bw hz.symm) cT (bw XD),q',λ h' DO hs=>?_⟩
  refine wu (id hk) λ ob eb V4 Pc xb u0=>?_
  refine wu (id DO) λ Pa V5 Qa FF Pd u0=>?_
  refine bV (R.write (O':=.ao (xQ es i)) (tk:=s.toks+1) (ro:=false) hl (iZ hl λ u0 u0=>nofun) (g8 λ u0 u0=>nofun) Pc FF (Pd.1.trans xb.1.symm) hs (λ g=> .ao DO ((rk.grow g).without i)) (.inr rfl)) λ R' S=>?_
  exact⟨v,_,rv.grow S.grow,R',S,h⟩
end
noncomputable abbrev Base.with(B:Base)(Z:Nat->Prop):Base:={B with Z:=Z}
section
variable {B : Base} {Z Z' : Nat -> Prop} {H H' nR : Mine.H} {h h' : Heap} {s s' oB : Shared} {F I : Nat -> Prop} {r r' : Bool} {env : Env} {ρ : fS} {fr : Mine.Fr}
theorem Step.Qb(x:Step Z F r H s H' s'){O:Mine.O}(R:Rel B H s.heap)(e:H a=some O)(eo:s.heap.get? a=some o)(q:H' a=none):¬j5 H' s'.heap a:=by
 rintro(⟨O',q'⟩|⟨a',i,d⟩)
 ·rw[q] at q';exact dD q'
 ·refine bV (x.mI a' a i d ⟨_,eo⟩) λ i' d'=>?_
  have:=(R.mH a' a i' d').1
  rw[e] at this;exact AB this
theorem Step.N7(R:Rel B H s.heap)(x:Step Z F r H s H' s')(y:Step Z' F r' H' s' nR oB)(q:∀a,Z' a->aR s.heap a->Z a):Step Z F (r&&r') H s nR oB where
 same:=by
  refine gN x.same λ h t ak=>?_;obtain rfl:=ak
  refine gN y.same λ h2 t2 ak=>?_;obtain rfl:=ak
  exact⟨h2,t2,rfl⟩
 grow:=⟨λ a l=>y.live a (x.live a l),λ a o e t n=>y.grow.tup a o (x.grow.tup a o e t n) t λ z=>n (q a z ⟨_,e⟩)⟩
 keep:=λ b o e n f=>y.keep b o (x.keep b o e n f) (λ q=>n (x.own q ⟨_,e⟩)) f
 rH:=λ a o e hs=>by refine aK (y.rH a o e (x.live _ hs)) λ o' e'=>?_;exact x.rH a o' e' hs
 mI:=λ a d i e hs=>by refine bV (y.mI a d i e (x.live _ hs)) λ i' e'=>?_;exact x.mI a d i' e' hs
 ro:=λ hr a O o e eo hc=>by
  refine bV (Bool.and_eq_true_iff.mp hr) λ h1 h2=>?_
  have e1:=x.ro h1 a O o e eo hc
  cases q:H' a with
  |some O'=>exact y.ro h2 a O' o q e1 hc
  |none=>exact y.keep a o e1 (x.Qb R e eo q) (x.fr a O e)
 fr:=x.fr
 cls:=λ a O o e eo=>by
  refine aG (x.cls a O o e eo) λ o1 e1 c1=>?_
  cases q:H' a with
  |some O'=>refine aG (y.cls a O' o1 q e1) λ o2 e2 c2=>?_;exact⟨o2,e2,c2.trans c1⟩
  |none=>exact⟨o1,y.keep a o1 e1 (x.Qb R e eo q) (x.fr a O e),c1⟩
theorem lW{H:Mine.H}(R:Rel B H h)(hI:∀b,I b->¬j5 H h b)(k:∀b o,¬I b->h.get? b=some o->h'.get? b=some o)(q:j5 H h b):h'.get? b=h.get? b:=by
 have n:¬I b:=λ f=>hI b f q
 rcases q with⟨O,e⟩|⟨b',i,d⟩
 ·refine aG ((R.obj b O e).2.cls) λ o e1 u0=>?_
  rw[e1];exact k _ _ n e1
 ·refine DK (R.fF i) λ c dx es n' e1 e2 e3=>?_
  rw[e3] at d;obtain rfl:=c8 d
  rw[e2];exact k _ _ n e2
theorem Step.trail(R:Rel B H' s'.heap)(x:Step Z F r H s H' s')(hI:∀b,I b->¬aR s.heap b/\¬j5 H' s'.heap b)(e:∃oA tk,oB={s' with heap:=oA,toks:=tk})(k:∀b o,¬I b->s'.heap.get? b=some o->oB.heap.get? b=some o):
  Step Z F r H s H' oB:=by
 have kl:∀b o,aR s.heap b->s'.heap.get? b=some o->oB.heap.get? b=some o:=λ b o l e=>k b o (λ q=>(hI b q).1 l) e
 have kd:∀b,bK H' b->aH oB.heap b=aH s'.heap b:=λ b hP=>by
  refine gN hP λ c fs e=>?_
  unfold aH;rw[lW (I:=I) R (λ b q=>(hI b q).2) k (.inl ⟨_,e⟩)]
 refine⟨?_,⟨λ a l=>?_,λ a o e t n=>kl a o ⟨_,e⟩ (x.grow.tup a o e t n)⟩,λ b o e n f=>kl b o ⟨_,e⟩ (x.keep b o e n f),λ a o e l=>x.rH a o e l,λ a d i e l=>x.mI a d i (kd a i ▸ e) l,
  λ hr a O o e eo hc=>kl a o ⟨_,eo⟩ (x.ro hr a O o e eo hc),x.fr,λ a O o e eo=>?_⟩
 ·refine gN x.same λ h1 t1 ak=>?_;obtain rfl:=ak
  refine gN e λ h2 t2 ak=>?_;obtain rfl:=ak
  exact⟨h2,t2,rfl⟩
 ·refine aK (x.live a l) λ o e=>?_
  exact⟨o,kl a o l e⟩
 ·refine aG (x.cls a O o e eo) λ o' e1 c=>?_
  exact⟨o',kl a o' ⟨_,eo⟩ e1,c⟩
theorem RK.less(q:∀a,Z a->aR h a->Z' a)(x:RK Z' h es bY):RK Z h es bY:=RL.imp (λ r=>⟨r.1,r.2.less q⟩) x
theorem RT.less(q:∀a,Z a->aR h a->Z' a):(∀p∈bY,aR h p.2.1)->RT Z' h es bY->RT Z h es bY:=λ l x=>
 RL.ind (P:=λ(es:List (List Ak×V)) (bY:List (List Ak×Addr×Value))=>(∀p∈bY,aR h p.2.1)->RT Z h es bY) (λ u0=> .nil) (λ a u0 ih l=>RL.cons ⟨a.1,λ z=>a.2.1 (q _ z (l _ (.head _))),a.2.2.less q⟩ (ih λ p hp=>l p (.tail _ hp))) x l
theorem RF.less(q:∀a,Z a->aR h a->Z' a)(x:RF Z' h es bY):RF Z h es bY:=RL.imp (λ r=>⟨r.1,r.2.less q⟩) x
theorem RO.less{O:Mine.O}(q:∀a,Z a->aR h a->Z' a)(x:RO (B.with Z') h a O):RO (B.with Z) h a O:=by
 cases O with
 |list _=>refine nQ x λ u0 u0 e z l=>?_;exact .list e z (l.less q)
 |ao _=>refine aG x λ u0 e l=>?_;exact .ao e (l.less q)
 |b9 _=>
  refine aG x λ u0 e l=>?_
  refine .b9 e (l.less q λ p hp=>?_)
  refine RX e λ o es ep e1 x y z w nd=>?_
  refine wu (w p hp) λ o' items n e2 c r=>?_
  exact⟨o',e2⟩
 |inst _ _=>refine CH x λ u0 u0 u0 e e2 l z y=>?_;exact .inst e e2 (l.less q) z y
theorem Rel.Ts(R:Rel B H h)(k:∀b o,h.get? b=some o->h'.get? b=some o)(q:∀a,Z' a->aR h a->B.Z a)(zl:∀a,Z' a->aR h' a/\¬aR B.h₀ a):Rel (B.with Z') H h':=by
 have kd:∀b,bK H b->aH h' b=aH h b:=λ b i=>by
  refine DK (R.fF i) λ c dx es n e1 u0 u0=>?_
  unfold aH;rw[e1,k _ _ e1]
 have Ah:∀a O,H a=some O->h'.get? a=h.get? a:=λ a O e=>by
  refine aG ((R.obj a O e).2.cls) λ o e1 u0=>?_
  rw[e1];exact k _ _ e1
 refine⟨λ b o e=>k _ _ (R.base b o e),zl,λ a O e=>⟨(R.obj a O e).1,RO.kept (B:=B.with Z') (RO.less (B:=B) (Z:=Z') (Z':=B.Z) q (R.obj a O e).2) (dX.keeps k).bx (Ah a O e) (λ d hd=>?_)⟩,
  λ a a' d i i' e e'=>R.sep a a' d i i' (kd a i ▸ e) (kd a' i' ▸ e'),λ a d i e=>R.mH a d i (kd a i ▸ e)⟩
 refine Vm ((R.obj a O e).2.mP hd) λ c fs es n u0 u0 e2 u0=>?_
 rw[e2];exact k _ _ e2
theorem eD.Ts(r:eD B H h env ρ fr)(k:∀b o,h.get? b=some o->h'.get? b=some o)(q:∀a,Z' a->aR h a->B.Z a)(R:Rel B H h):eD (B.with Z') H h' env ρ fr:=by
 have tp:gQ Z' h h':=(dX.keeps k).bx
 refine⟨r.fk,r.gl,r.bl,?_,λ x i e hk=>?_,r.ap,λ b f=>?_,r.cl,λ x c e=>?_⟩
 ·refine aG r.ns λ m hn hv=>?_
  refine⟨m,hn.at' λ o e=>k _ o e,λ x i v e hk ef=>?_⟩
  refine aG (hv x i v e hk ef) λ y e1 e2=>?_
  exact⟨y,e1,(RV.less q e2).bx tp⟩
 ·refine nQ (r.ce x i e hk) λ c vo e1 ak hv=>?_;refine aG ak λ o e2 e3=>?_
  refine⟨c,vo,e1,⟨o,k _ _ e2,e3⟩,λ v ef=>?_⟩
  refine aG (hv v ef) λ y e4 e5=>?_
  exact⟨y,e4,(RV.less q e5).bx tp⟩
 ·refine fy (r.ow b f) λ ak b' c=>?_;refine aK ak λ o a=>?_
  refine⟨⟨o,k _ _ a⟩,λ q=>b' ?_,c⟩
  rcases q with⟨O,e⟩|⟨a',i,d⟩
  ·exact .inl ⟨O,e⟩
  ·refine .inr ⟨a',i,?_⟩
   refine DK (R.fF i) λ c dx es n e1 u0 e3=>?_
   unfold aH at d
   rw[k _ _ e1] at d
   rw[e3];exact d
 ·refine fh (r.cc x c e) λ vo o e1 e2=>?_
  exact⟨vo,o,k _ _ e1,e2⟩
theorem cy{I Z:Nat->Prop}(nt:∀b,I b->Z b)(k:∀b o,¬I b->h.get? b=some o->h'.get? b=some o):gQ Z h h':=
 ⟨λ b hP n=>by refine aK hP λ o e=>?_;exact⟨o,k b o (λ q=>n (nt b q)) e⟩,λ b o e t n=>k b o (λ q=>n (nt b q)) e⟩
theorem Rel.turn(R:Rel (B.with Z') H h)(hI:∀b,I b->¬j5 H h b/\¬aR B.h₀ b)(nt:∀b,I b->Z' b)(k:∀b o,¬I b->h.get? b=some o->h'.get? b=some o)
  (sub:∀a,B.Z a->Z' a)(zl:∀a,B.Z a->aR h' a/\¬aR B.h₀ a):Rel B H h':=by
 have Ah:∀b,j5 H h b->h'.get? b=h.get? b:=λ b q=>lW R (λ b q=>(hI b q).1) k q
 have kd:∀b,bK H b->aH h' b=aH h b:=λ b hP=>by refine gN hP λ c fs e=>?_;unfold aH;rw[Ah b (.inl ⟨_,e⟩)]
 refine⟨λ b o e=>k _ _ (λ q=>(hI b q).2 ⟨_,e⟩) (R.base b o e),zl,λ a O e=>⟨(R.obj a O e).1,RO.less (B:=B) (Z:=B.Z) (Z':=Z') (λ a z u0=>sub a z) (RO.kept (B:=B.with Z') (R.obj a O e).2 (cy nt k) (Ah a (.inl ⟨O,e⟩)) (λ d hd=>?_))⟩,
  λ a a' d i i' e e'=>R.sep a a' d i i' (kd a i ▸ e) (kd a' i' ▸ e'),λ a d i e=>R.mH a d i (kd a i ▸ e)⟩
 refine E7 ((R.obj a O e).2.mP hd) λ c fs es n ak u0=>?_;obtain rfl:=ak
 exact Ah d (.inr ⟨a,⟨c,fs,e⟩,hd⟩)
theorem eD.turn(r:eD (B.with Z') H h env ρ fr)(R:Rel (B.with Z') H h)(hI:∀b,I b->¬j5 H h b/\¬aR B.h₀ b)(nt:∀b,I b->Z' b)(k:∀b o,¬I b->h.get? b=some o->h'.get? b=some o)
  (sub:∀a,B.Z a->Z' a)(nf:∀b,FA env b->¬I b):eD B H h' env ρ fr:=by
 have tp:gQ Z' h h':=cy nt k
 have Ah:∀b,j5 H h b->h'.get? b=h.get? b:=λ b q=>lW R (λ b q=>(hI b q).1) k q
 refine⟨r.fk,r.gl,r.bl,?_,λ x i e hk=>?_,r.ap,λ b f=>?_,r.cl,λ x c e=>?_⟩
 ·refine aG r.ns λ m hn hv=>?_
  refine⟨m,hn.at' λ o e=>k _ o (nf _ (.inl rfl)) e,λ x i v e hk ef=>?_⟩
  refine aG (hv x i v e hk ef) λ y e1 e2=>?_
  exact⟨y,e1,RV.less (λ a z u0=>sub a z) (e2.bx tp)⟩
 ·refine nQ (r.ce x i e hk) λ c vo e1 ak hv=>?_;refine aG ak λ o e2 e3=>?_
  refine⟨c,vo,e1,⟨o,k _ _ (nf _ (.inr ⟨x,e1⟩)) e2,e3⟩,λ v ef=>?_⟩
  refine aG (hv v ef) λ y e4 e5=>?_
  exact⟨y,e4,RV.less (λ a z u0=>sub a z) (e5.bx tp)⟩
 ·refine fy (r.ow b f) λ ak b' c=>?_;refine aK ak λ o a=>?_
  refine⟨⟨o,k _ _ (nf _ f) a⟩,λ q=>b' ?_,c⟩
  rcases q with⟨O,e⟩|⟨a',i,d⟩
  ·exact .inl ⟨O,e⟩
  ·refine .inr ⟨a',i,?_⟩
   unfold aH at d⊢
   refine gN i λ c fs e=>?_
   rw[Ah a' (.inl ⟨_,e⟩)] at d;exact d
 ·refine fh (r.cc x c e) λ vo o e1 e2=>?_
  exact⟨vo,o,k _ _ (nf _ (.inr ⟨x,e⟩)) e1,e2⟩
theorem Rel.V9(R:Rel (B.with Z') H h)(sub:∀a,B.Z a->Z' a):Rel B H h:=R.turn (I:=bH) (λ u0=>False.elim) (λ u0=>False.elim) (λ u0 u0 u0 e=>e) sub λ a z=>R.zl a (sub a z)
end
inductive Kd where
 |list|tuple
@[reducible] noncomputable def XE:Kd->String| .list=>"list"| .tuple=>"tuple"
@[reducible] noncomputable def V':Kd->String| .list=>"list_iterator"| .tuple=>"tuple_iterator"
noncomputable def SeqAt (k:Kd) (h:Heap) (a:Nat) (xs:Array Value):Prop:=∃o,h.get? a=some o/\o.cls=.type (XE k)/\∃n,o.data=.seq xs n
noncomputable def aP(k:Kd)(h:Heap)(it a i:Nat):Prop:=∃o,h.get? it=some o/\o.cls=.type (V' k)/\o.data=.fields #[.ref a,.int i 0]
noncomputable abbrev yC(k:Kd)(a:Nat):Obj:={cls:=.type (V' k),data:=.fields #[.ref a,.int 0 0]}
theorem SeqAt.at'{a xs}(x:SeqAt k h a xs)(e:∀o,h.get? a=some o->h'.get? a=some o):SeqAt k h' a xs:=by refine aG x λ o ho r=>?_;exact⟨o,e _ ho,r⟩
theorem aP.at'{it a i}(x:aP k h it a i)(e:∀o,h.get? it=some o->h'.get? it=some o):aP k h' it a i:=by refine aG x λ o ho r=>?_;exact⟨o,e _ ho,r⟩
theorem aP.new{h:Heap}:aP k (h.push (yC k a)) h.objs.size a 0:=⟨_,fW _ rfl,rfl,rfl⟩
theorem aP.live{it a i}(x:aP k h it a i):aR h it:=by refine aG x λ o e u0=>?_;exact⟨o,e⟩
theorem SeqAt.live{a xs}(x:SeqAt k h a xs):aR h a:=by refine aG x λ o e u0=>?_;exact⟨o,e⟩
section
variable {prog : Program} {w : World} {A : Around} {E : Value -> Shared -> Prop} {s : Shared} {k : Kd} {it a i : Nat} {xs : Array Value} {x : Value}
theorem ix{Q:Value->Shared->Prop}(l:SeqAt k s.heap a xs)(hQ:Q (.ref s.heap.objs.size) {s with heap:=s.heap.push (yC k a)}):wpAny (model prog w) A (pyIter (.ref a)) Q E s:=by
 cases k
 ·exact wpAny_pyIter_list l hQ
 ·exact wpAny_pyIter_tuple l hQ
theorem HP{Q:Value->Shared->Prop}(l:aP k s.heap it a i)(hQ:Q (.ref it) s):wpAny (model prog w) A (pyIter (.ref it)) Q E s:=by
 cases k
 ·exact wpAny_pyIter_listiter l hQ
 ·exact wpAny_pyIter_tupleiter l hQ
theorem y8{Q:Option Value->Shared->Prop}(t:aP k s.heap it a i)(l:SeqAt k s.heap a xs)(hx:xs[i]?=some x)
  (hQ:∀h',aP k h' it a (i+1)->Heap.SameBut it s.heap h'->Q (some x) {s with heap:=h'}):wpAny (model prog w) A (pyNext (.ref it)) Q E s:=by
 cases k
 ·exact wpAny_pyNext_list_item t l hx hQ
 ·exact wpAny_pyNext_tuple_item t l hx hQ
theorem Dn{Q:Option Value->Shared->Prop}(hh:A.handled=none)(t:aP k s.heap it a i)(l:SeqAt k s.heap a xs)(hx:xs[i]?=none)
  (hQ:∀h',Heap.ExtBut it s.heap h'->Q none {s with heap:=h'}):wpAny (model prog w) A (pyNext (.ref it)) Q E s:=by
 cases k
 ·exact wpAny_pyNext_list_end hh t l hx hQ
 ·exact wpAny_pyNext_tuple_end hh t l hx hQ
theorem qd{Q:Value->Shared->Prop}(vq:s.heap.IsTupleIter it a i)(hl:s.heap.IsTuple a xs)(hx:xs[i]?=some x)
  (hQ:∀h',h'.IsTupleIter it a (i+1)->Heap.SameBut it s.heap h'->Q x {s with heap:=h'}):
  wpAny (model prog w) A (Builtin.SmallTypes.nextOf (.ref it)) Q E s:=by
 refine ik (id vq) λ o ho hc hd=>?_
 obtain⟨ol,Fa,_,nl,Tt⟩:=hl
 unfold Builtin.SmallTypes.nextOf
 refine aq (wpAny_callSpecial?_slot (name:=Str.ofString "__next__") vq.typeIs F.slot_tuple_iterator_next
  (wpAny_call_entry F.slot_tuple_iterator_next vq.typeIs F.entry_tuple_iterator_next ?_ (F.args_tuple_iterator_next_1 _)))
 show wpAny _ _ (field (.ref it) 0>>=_) _ _ s
 refine aq (wpAny_field ho hd (x:=.ref a) rfl ?_)
 show wpAny _ _ (if(Value.ref a==Value.none)=true then _ else _) _ _ s
 rw[if_neg (show¬((Value.ref a==Value.none)=true) from kX)]
 show wpAny _ _ (field (.ref it) 1>>=_) _ _ s
 refine aq (wpAny_field ho hd (x:=.int i 0) rfl ?_)
 show wpAny _ _ (seqItems? (.ref a)>>=_) _ _ s
 refine aq (wpAny_seqItems Fa Tt ?_)
 simp only[Int.toNat_natCast,hx]
 refine aq (wpAny_setField ho hd (by simp) (a8 ⟨x,rfl,a8 (hQ _ ?_ (Heap.SameBut.update ..))⟩))
 exact⟨_,Heap.get?_update_self _ ho (Obj.isFreed_of_fields (Obj.data_mapFields hd _)),(Obj.cls_mapFields ..).trans hc,by
  rw[Obj.data_mapFields hd];simp[rawInt]⟩
theorem qZ{Q:Value->Shared->Prop}(hh:A.handled=none)(vq:s.heap.IsTupleIter it a i)(hl:s.heap.IsTuple a xs)(hx:xs[i]?=none)
  (hE:∀h' e,Heap.ExtBut it s.heap h'->(∃o,h'.get? e=some o/\o.cls=.type "StopIteration")->E (.ref e) {s with heap:=h'}):
  wpAny (model prog w) A (Builtin.SmallTypes.nextOf (.ref it)) Q E s:=by
 refine ik (id vq) λ o ho hc hd=>?_
 obtain⟨ol,Fa,_,nl,Tt⟩:=hl
 unfold Builtin.SmallTypes.nextOf
 refine aq (wpAny_callSpecial?_slot (name:=Str.ofString "__next__") vq.typeIs F.slot_tuple_iterator_next
  (wpAny_call_entry F.slot_tuple_iterator_next vq.typeIs F.entry_tuple_iterator_next ?_ (F.args_tuple_iterator_next_1 _)))
 show wpAny _ _ (field (.ref it) 0>>=_) _ _ s
 refine aq (wpAny_field ho hd (x:=.ref a) rfl ?_)
 show wpAny _ _ (if(Value.ref a==Value.none)=true then _ else _) _ _ s
 rw[if_neg (show¬((Value.ref a==Value.none)=true) from kX)]
 show wpAny _ _ (field (.ref it) 1>>=_) _ _ s
 refine aq (wpAny_field ho hd (x:=.int i 0) rfl ?_)
 show wpAny _ _ (seqItems? (.ref a)>>=_) _ _ s
 refine aq (wpAny_seqItems Fa Tt ?_)
 simp only[Int.toNat_natCast,hx]
 refine aq (wpAny_rule (aq (wpAny_setField ho hd (by simp) ?_)))
 show wpAny _ _ (newExc (.type "StopIteration") []>>=_) _ _ _
 refine aq ?_
 simp only[newExc,newTuple]
 refine aq (wpAny_newObj_type ?_ (by size_fits))
 refine aq (m:=firstArgMember _ _) (wpAny_of_eq (a:=Value.none) (by first|rfl|(simp only[firstArgMember];rfl)) ?_)
 refine wpAny_newObj_type ?_ (by size_fits)
 simp only[raiseNew]
 refine aq (wpAny_handled ?_)
 first|rw[show A.in1.handled=none from hh]|rw[hh]
 refine aq (a8 (wpAny_throw ?_))
 exact hE _ _ (((Heap.SameBut.update ..).extBut.push _).push _) ⟨_,fW _ rfl,rfl⟩
theorem c5{Q:Value->Shared->Prop}(t:aP k s.heap it a i)(l:SeqAt k s.heap a xs)(hx:xs[i]?=some x)
  (hQ:∀h',aP k h' it a (i+1)->Heap.SameBut it s.heap h'->Q x {s with heap:=h'}):wpAny (model prog w) A (Builtin.SmallTypes.nextOf (.ref it)) Q E s:=by
 cases k
 ·exact wpAny_nextOf_list_item t l hx hQ
 ·exact qd t l hx hQ
theorem fK{Q:Value->Shared->Prop}(hh:A.handled=none)(t:aP k s.heap it a i)(l:SeqAt k s.heap a xs)(hx:xs[i]?=none)
  (hE:∀h' e,Heap.ExtBut it s.heap h'->(∃o,h'.get? e=some o/\o.cls=.type "StopIteration")->E (.ref e) {s with heap:=h'}):wpAny (model prog w) A (Builtin.SmallTypes.nextOf (.ref it)) Q E s:=by
 cases k
 ·exact wpAny_nextOf_list_end hh t l hx hE
 ·exact qZ hh t l hx hE
theorem iC{r:Nat}{Q:Unit->Shared->Prop}(e:s.heap.get? r=some o)(hc:o.cls=.type n)
  (hn:["enumerate","zip","dict_itemiterator","dict_reverseitemiterator","odict_iterator","itertools.zip_longest","itertools.pairwise"].contains n=false)(h:Q () s):
  wpAny (model prog w) A (letOwnedTupleGo tgt (.ref r) v) Q E s:=by
 unfold letOwnedTupleGo
 have rU:wpAny (model prog w) A (do
   let(.ref r,.ref a):=((.ref r:Value),v)|return
   let o←load r
   match o.cls,o.data with
   | .type n,.fields vs=>
    if["enumerate","zip","dict_itemiterator","dict_reverseitemiterator","odict_iterator","itertools.zip_longest","itertools.pairwise"].contains n&&vs[0]?==some (rawInt a) then
     rule "for.unpacks-the-owned-tuple"
     updateField r 0 .none
   |_,_=>pure ()) Q E s:=by
  cases v<;>first|exact a8 h|skip
  refine aq (wpAny_load e ?_)
  rw[hc]
  cases o.data<;>first|exact a8 h|skip
  simp only[hn,Bool.false_and]
  exact a8 h
 cases tgt<;>first|exact a8 h|exact rU
end
theorem SeqAt.extBut{a b xs}(x:SeqAt k h a xs)(hs:Heap.ExtBut b h h')(Sz:a≠b):SeqAt k h' a xs:=x.at' λ o e=>hs a o Sz e
theorem aP.extBut{it a b i}(x:aP k h it a i)(hs:Heap.ExtBut b h h')(Sz:it≠b):aP k h' it a i:=x.at' λ o e=>hs it o Sz e
theorem SeqAt.push{a xs}(x:SeqAt k h a xs)(o:Obj):SeqAt k (h.push o) a xs:=x.at' λ u0 e=>fR _ e
section
variable {prog : Program} {w : World} {A : Around} {E : Value -> Shared -> Prop} {s : Shared}
theorem EK{Q:Value->Shared->Prop}(D:ZipApart z TI TO i1 i2 l1 l2)
  (hz:IsZip s.heap z TI TO .none)(oC:IsPair s.heap TI (.ref i1) (.ref i2))(nu:IsPair s.heap TO a b)
  (h1:aP ka s.heap i1 l1 k1)(h2:aP kb s.heap i2 l2 k2)(rV:SeqAt ka s.heap l1 xs)(qs:SeqAt kb s.heap l2 ys)(hx:xs[k1]?=some x)(hy:ys[k2]?=some y)
  (hQ:∀h',IsZip h' z TI TO (rawInt s.heap.objs.size)->IsPair h' TO x y->aP ka h' i1 l1 (k1+1)->aP kb h' i2 l2 (k2+1)->IsPair h' s.heap.objs.size x y->h'.objs.size=s.heap.objs.size+1->
   (∀c o,c≠z->c≠TO->c≠i1->c≠i2->s.heap.get? c=some o->h'.get? c=some o)->Q (.ref s.heap.objs.size) {s with heap:=h'}):
  wpAny (model prog w) A (Builtin.«zip.__next__» ⟨[.ref z],[]⟩) (λ aY s'=>∃v,aY=.done (.ret v)/\Q v s') E s:=by
 show wpAny _ _ (field (.ref z) 2>>=_) _ _ _
 refine aq (wpAny_field hz rfl (x:=.bool false) rfl ?_)
 show wpAny _ _ (field (.ref z) 3>>=_) _ _ _
 refine aq (wpAny_field hz rfl (x:=.ref TI) rfl ?_)
 refine aq (wpAny_seqItems oC rfl ?_)
 show wpAny _ _ (Builtin.SmallTypes.ownedTupleIsFree (.ref z)>>=_) _ _ _
 refine aq ?_
 unfold Builtin.SmallTypes.ownedTupleIsFree
 refine aq (wpAny_field hz rfl (x:=.none) rfl (a8 ?_))
 simp only[if_true]
 refine aq (wpAny_rule ?_)
 refine aq (wpAny_field hz rfl (x:=.ref TO) rfl ?_)
 refine aq (wpAny_setField_rec hz (by simp) λ bB lF cD=>?_)
 replace lF:IsZip bB z TI TO .ellipsis:=lF
 refine aq ?_
 simp only[List.zipIdx_cons,List.zipIdx_nil,List.forIn_cons,List.forIn_nil]
 refine aq (aq (wpAny_onRaise ?_))
 show wpAny _ _ (Builtin.SmallTypes.nextOf (.ref i1)>>=_) _ _ _
 refine aq (c5 (h1.extBut cD.extBut D.i1z) (rV.extBut cD.extBut D.l1z) hx λ cN yD dw=>a8 ?_)
 have te:IsPair cN TO a b:=dw.extBut _ _ D.TOi1 (cD.extBut _ _ D.TOz nu)
 refine aq (wpAny_seqItems te rfl ?_)
 refine aq (wpAny_updateSeq_pair te λ fv wI iO=>?_)
 replace wI:IsPair fv TO x b:=wI
 refine aq (wpAny_letGo (a8 ?_))
 refine aq (aq (wpAny_onRaise ?_))
 show wpAny _ _ (Builtin.SmallTypes.nextOf (.ref i2)>>=_) _ _ _
 refine aq (c5 (((h2.extBut cD.extBut D.i2z).extBut dw.extBut D.i12.symm).extBut iO.extBut D.TOi2.symm)
  (((qs.extBut cD.extBut D.l2z).extBut dw.extBut D.l2i1).extBut iO.extBut D.l2TO) hy λ k8 Ga ig=>a8 ?_)
 have GI:IsPair k8 TO x b:=ig.extBut _ _ D.TOi2 wI
 refine aq (wpAny_seqItems GI rfl ?_)
 refine aq (wpAny_updateSeq_pair GI λ fV tf rz=>?_)
 replace tf:IsPair fV TO x y:=tf
 refine aq (wpAny_letGo (a8 (a8 ?_)))
 refine aq (wpAny_seqItems tf rfl ?_)
 refine aq (wpAny_newTuple ?_)
 have hsz:fV.objs.size=s.heap.objs.size:=by rw[rz.1,ig.1,iO.1,dw.1,cD.1]
 have vw:IsZip fV z TI TO .ellipsis:=rz.extBut _ _ D.TOz.symm (ig.extBut _ _ D.i2z.symm (iO.extBut _ _ D.TOz.symm (dw.extBut _ _ D.i1z.symm lF)))
 have jp:∀c o,c≠z->c≠TO->c≠i1->c≠i2->s.heap.get? c=some o->fV.get? c=some o:=λ c o c1 c2 c3 c4 e=>
  rz.extBut _ _ c2 (ig.extBut _ _ c4 (iO.extBut _ _ c2 (dw.extBut _ _ c3 (cD.extBut _ _ c1 e))))
 have Mt:aP ka fV i1 l1 (k1+1):=((yD.extBut iO.extBut D.TOi1.symm).extBut ig.extBut D.i12).extBut rz.extBut D.TOi1.symm
 have Mu:aP kb fV i2 l2 (k2+1):=Ga.extBut rz.extBut D.TOi2.symm
 have Qc:z<fV.objs.size:=iI vw
 have Wy:TO<fV.objs.size:=iI tf
 have Wz:i1<fV.objs.size:=by refine aG Mt λ u0 e u0=>?_;exact iI e
 have WB:i2<fV.objs.size:=by refine aG Mu λ u0 e u0=>?_;exact iI e
 show wpAny _ _ (Builtin.SmallTypes.ownedTupleHandOut (.ref z) (.ref fV.objs.size)>>=_) _ _ _
 refine aq ?_
 unfold Builtin.SmallTypes.ownedTupleHandOut
 have Ce:IsZip (fV.push {cls:=.type "tuple",data:=.seq #[x,y]}) z TI TO .ellipsis:=fR _ vw
 refine aq (wpAny_setField_rec Ce (by simp) λ Nq Gb Gc=>?_)
 replace Gb:IsZip Nq z TI TO (rawInt fV.objs.size):=Gb
 refine wpAny_setField_rec Gb (by simp) λ wo Cu Gd=>?_
 replace Cu:IsZip wo z TI TO (rawInt fV.objs.size):=Cu
 have up:∀c o,c≠z->fV.get? c=some o->wo.get? c=some o:=λ c o c1 e=>Gd.extBut _ _ c1 (Gc.extBut _ _ c1 (fR _ e))
 have Mw:IsPair wo fV.objs.size x y:=Gd.extBut _ _ (Nat.ne_of_gt Qc) (Gc.extBut _ _ (Nat.ne_of_gt Qc) (fW _ rfl))
 have Wa:wo.objs.size=fV.objs.size+1:=by rw[Gd.1,Gc.1,Heap.size_push]
 rw[hsz] at Cu Mw Wa
 refine a8 ⟨_,rfl,?_⟩
 show Q (.ref fV.objs.size) _
 rw[hsz]
 exact hQ wo Cu (up _ _ D.TOz tf) (Mt.at' λ o e=>up _ o D.i1z e) (Mu.at' λ o e=>up _ o D.i2z e) Mw Wa λ c o c1 c2 c3 c4 e=>up c o c1 (jp c o c1 c2 c3 c4 e)
theorem HQ{Q:Fin->Shared->Prop}(hh:A.handled=none)(D:ZipApart z TI TO i1 i2 l1 l2)
  (hz:IsZip s.heap z TI TO .none)(oC:IsPair s.heap TI (.ref i1) (.ref i2))(nu:IsPair s.heap TO a b)
  (h1:aP ka s.heap i1 l1 k1)(h2:aP kb s.heap i2 l2 k2)(rV:SeqAt ka s.heap l1 xs)(qs:SeqAt kb s.heap l2 ys)(Ax:xs[k1]?=none\/ys[k2]?=none)
  (hE:∀h' e,(∀c o,c≠z->c≠TO->c≠i1->c≠i2->s.heap.get? c=some o->h'.get? c=some o)->(∃o,h'.get? e=some o/\o.cls=.type "StopIteration")->E (.ref e) {s with heap:=h'}):
  wpAny (model prog w) A (Builtin.«zip.__next__» ⟨[.ref z],[]⟩) Q E s:=by
 show wpAny _ _ (field (.ref z) 2>>=_) _ _ _
 refine aq (wpAny_field hz rfl (x:=.bool false) rfl ?_)
 show wpAny _ _ (field (.ref z) 3>>=_) _ _ _
 refine aq (wpAny_field hz rfl (x:=.ref TI) rfl ?_)
 refine aq (wpAny_seqItems oC rfl ?_)
 show wpAny _ _ (Builtin.SmallTypes.ownedTupleIsFree (.ref z)>>=_) _ _ _
 refine aq ?_
 unfold Builtin.SmallTypes.ownedTupleIsFree
 refine aq (wpAny_field hz rfl (x:=.none) rfl (a8 ?_))
 simp only[if_true]
 refine aq (wpAny_rule ?_)
 refine aq (wpAny_field hz rfl (x:=.ref TO) rfl ?_)
 refine aq (wpAny_setField_rec hz (by simp) λ bB lF cD=>?_)
 replace lF:IsZip bB z TI TO .ellipsis:=lF
 refine aq ?_
 simp only[List.zipIdx_cons,List.zipIdx_nil,List.forIn_cons,List.forIn_nil]
 refine aq (aq (wpAny_onRaise ?_))
 show wpAny _ _ (Builtin.SmallTypes.nextOf (.ref i1)>>=_) _ _ _
 cases hx:xs[k1]? with
 |none=>
  refine aq (fK hh (h1.extBut cD.extBut D.i1z) (rV.extBut cD.extBut D.l1z) hx λ cN e dw he=>?_)
  refine aG he λ oe MW Pf=>?_
  have Mx:IsZip cN z TI TO .ellipsis:=dw _ _ D.i1z.symm lF
  have Tu:e≠z:=λ x=>by subst x;rw[Mx] at MW;obtain rfl:=c8 MW;simp at Pf
  refine wpAny_setField_rec Mx (by simp) λ fv u0 iO=>hE fv e (λ c o c1 u0 c3 u0 x=>iO.extBut _ _ c1 (dw _ _ c3 (cD.extBut _ _ c1 x))) ⟨oe,iO.extBut _ _ Tu MW,Pf⟩
 |some x=>
  have hy:ys[k2]?=none:=by rcases Ax with h|h;rw[hx] at h;exact AB h;exact h
  refine aq (c5 (h1.extBut cD.extBut D.i1z) (rV.extBut cD.extBut D.l1z) hx λ cN yD dw=>a8 ?_)
  have te:IsPair cN TO a b:=dw.extBut _ _ D.TOi1 (cD.extBut _ _ D.TOz nu)
  refine aq (wpAny_seqItems te rfl ?_)
  refine aq (wpAny_updateSeq_pair te λ fv wI iO=>?_)
  refine aq (wpAny_letGo (a8 ?_))
  refine aq (aq (wpAny_onRaise ?_))
  show wpAny _ _ (Builtin.SmallTypes.nextOf (.ref i2)>>=_) _ _ _
  refine aq (fK hh (((h2.extBut cD.extBut D.i2z).extBut dw.extBut D.i12.symm).extBut iO.extBut D.TOi2.symm)
   (((qs.extBut cD.extBut D.l2z).extBut dw.extBut D.l2i1).extBut iO.extBut D.l2TO) hy λ k8 e ig he=>?_)
  refine aG he λ oe MW Pf=>?_
  have My:IsZip k8 z TI TO .ellipsis:=ig _ _ D.i2z.symm (iO.extBut _ _ D.TOz.symm (dw.extBut _ _ D.i1z.symm lF))
  have Tu:e≠z:=λ x=>by subst x;rw[My] at MW;obtain rfl:=c8 MW;simp at Pf
  refine wpAny_setField_rec My (by simp) λ fV u0 rz=>hE fV e (λ c o c1 c2 c3 c4 x=>rz.extBut _ _ c1 (ig _ _ c4 (iO.extBut _ _ c2 (dw.extBut _ _ c3 (cD.extBut _ _ c1 x))))) ⟨oe,rz.extBut _ _ Tu MW,Pf⟩
theorem vP{Q:Option Value->Shared->Prop}(D:ZipApart z TI TO i1 i2 l1 l2)
  (hz:IsZip s.heap z TI TO .none)(oC:IsPair s.heap TI (.ref i1) (.ref i2))(nu:IsPair s.heap TO a b)
  (h1:aP ka s.heap i1 l1 k1)(h2:aP kb s.heap i2 l2 k2)(rV:SeqAt ka s.heap l1 xs)(qs:SeqAt kb s.heap l2 ys)(hx:xs[k1]?=some x)(hy:ys[k2]?=some y)
  (hQ:∀h',IsZip h' z TI TO (rawInt s.heap.objs.size)->IsPair h' TO x y->aP ka h' i1 l1 (k1+1)->aP kb h' i2 l2 (k2+1)->IsPair h' s.heap.objs.size x y->h'.objs.size=s.heap.objs.size+1->
   (∀c o,c≠z->c≠TO->c≠i1->c≠i2->s.heap.get? c=some o->h'.get? c=some o)->Q (some (.ref s.heap.objs.size)) {s with heap:=h'}):
  wpAny (model prog w) A (pyNext (.ref z)) Q E s:=by
 have hT:s.TypeIs (.ref z) "zip":=⟨_,hz,rfl⟩
 unfold pyNext
 exact aq (wpAny_attempt (wpAny_callSpecial?_slot (name:=Str.ofString "__next__") hT F.slot_zip_next
  (wpAny_call_entry F.slot_zip_next hT F.entry_zip_next
   (EK D hz oC nu h1 h2 rV qs hx hy λ h' a1 a2 a3 a4 a5 a6 a7=>a8 (hQ h' a1 a2 a3 a4 a5 a6 a7)) (F.args_zip_next_1 _))))
theorem vQ{Q:Option Value->Shared->Prop}(hh:A.handled=none)(D:ZipApart z TI TO i1 i2 l1 l2)
  (hz:IsZip s.heap z TI TO .none)(oC:IsPair s.heap TI (.ref i1) (.ref i2))(nu:IsPair s.heap TO a b)
  (h1:aP ka s.heap i1 l1 k1)(h2:aP kb s.heap i2 l2 k2)(rV:SeqAt ka s.heap l1 xs)(qs:SeqAt kb s.heap l2 ys)(Ax:xs[k1]?=none\/ys[k2]?=none)
  (hQ:∀h',(∀c o,c≠z->c≠TO->c≠i1->c≠i2->s.heap.get? c=some o->h'.get? c=some o)->Q none {s with heap:=h'}):wpAny (model prog w) A (pyNext (.ref z)) Q E s:=by
 have hT:s.TypeIs (.ref z) "zip":=⟨_,hz,rfl⟩
 unfold pyNext
 refine aq (wpAny_attempt (wpAny_callSpecial?_slot (name:=Str.ofString "__next__") hT F.slot_zip_next
  (wpAny_call_entry F.slot_zip_next hT F.entry_zip_next (HQ hh D hz oC nu h1 h2 rV qs Ax λ h' e hk he=>?_) (F.args_zip_next_1 _))))
 refine aG he λ o ho hc=>?_
 refine aq (wpAny_isInstance (T:="StopIteration") (b:=true) ⟨o,ho,hc⟩ isSubtype_stop ?_)
 exact a8 (hQ _ hk)
noncomputable abbrev Cv(h:Heap)(ka:Kd)(l1:Addr):Heap:=h.push (yC ka l1)
noncomputable abbrev Cw(h:Heap)(ka kb:Kd)(l1 l2:Addr):Heap:=(Cv h ka l1).push (yC kb l2)
noncomputable abbrev Cy(h:Heap)(ka kb:Kd)(l1 l2:Addr):Heap:=(Cw h ka kb l1 l2).push {cls:=.type "tuple",data:=.seq #[.ref h.objs.size,.ref (Cv h ka l1).objs.size]}
noncomputable abbrev Cz(h:Heap)(ka kb:Kd)(l1 l2:Addr):Heap:=(Cy h ka kb l1 l2).push {cls:=.type "tuple",data:=.seq #[.none,.none]}
noncomputable abbrev sX(h:Heap)(ka kb:Kd)(l1 l2:Addr):Heap:=(Cz h ka kb l1 l2).push {cls:=.type "zip",data:=.fields #[.none,.bool false,.bool false,.ref (Cw h ka kb l1 l2).objs.size,.ref (Cy h ka kb l1 l2).objs.size]}
theorem HR(ka kb:Kd)(l1 l2:Addr)(xs ys:Array Value):
  Meets (Builtin.«zip.__new__» ⟨[.type "zip",.ref l1,.ref l2],[]⟩) (λ u0 R s=>SeqAt ka s.heap l1 xs/\SeqAt kb s.heap l2 ys/\
   R (.ok (.ret (.ref (Cz s.heap ka kb l1 l2).objs.size))) {s with heap:=sX s.heap ka kb l1 l2}):=
 .of_wp λ prog w A R s h=>by
  obtain⟨hp,g,d,tk,os⟩:=s;refine fy h λ rV qs h=>?_
  have Nd:=sub_zip
  have XF:SeqAt ka (Shared.heap ⟨hp,g,d,tk,os⟩) l1 xs:=rV
  have Lz:SeqAt kb (Shared.heap ⟨hp.push (yC ka l1),g,d,tk,os⟩) l2 ys:=SeqAt.push qs _
  wp_walk using ix XF,ix Lz
  exact⟨_,rfl,h⟩
theorem vR{l1 l2:Addr}{Q:Value->Shared->Prop}(rV:SeqAt ka s.heap l1 xs)(qs:SeqAt kb s.heap l2 ys)
  (h:∀h',IsZip h' (s.heap.objs.size+4) (s.heap.objs.size+2) (s.heap.objs.size+3) .none->IsPair h' (s.heap.objs.size+2) (.ref s.heap.objs.size) (.ref (s.heap.objs.size+1))->
   IsPair h' (s.heap.objs.size+3) .none .none->aP ka h' s.heap.objs.size l1 0->aP kb h' (s.heap.objs.size+1) l2 0->h'.objs.size=s.heap.objs.size+5->
   (∀c o,s.heap.get? c=some o->h'.get? c=some o)->Q (.ref (s.heap.objs.size+4)) {s with heap:=h'}):
  wpAny (model prog w) A (call (.type "zip") [.ref l1,.ref l2]) Q E s:=by
 refine callType_new F.called_zip (by decide) (F.typeCall_zip_2 _ _) (F.newCall_zip_2 _ _) (λ obj=>F.args_object_init_3 obj _ _) F.entry_zip_new
  (HR ka kb l1 l2 xs ys) ⟨rV,qs,?_⟩
 have z1:(Cv s.heap ka l1).objs.size=s.heap.objs.size+1:=Heap.size_push ..
 have z2:(Cw s.heap ka kb l1 l2).objs.size=s.heap.objs.size+2:=by rw[Heap.size_push,z1]
 have z3:(Cy s.heap ka kb l1 l2).objs.size=s.heap.objs.size+3:=by rw[Heap.size_push,z2]
 have z4:(Cz s.heap ka kb l1 l2).objs.size=s.heap.objs.size+4:=by rw[Heap.size_push,z3]
 have z5:(sX s.heap ka kb l1 l2).objs.size=s.heap.objs.size+5:=by rw[Heap.size_push,z4]
 have g5:(sX s.heap ka kb l1 l2).get? (Cz s.heap ka kb l1 l2).objs.size=some _:=fW _ rfl
 have g4:(sX s.heap ka kb l1 l2).get? (Cy s.heap ka kb l1 l2).objs.size=some _:=fR _ (fW _ rfl)
 have g3:(sX s.heap ka kb l1 l2).get? (Cw s.heap ka kb l1 l2).objs.size=some _:=fR _ (fR _ (fW _ rfl))
 have g2:(sX s.heap ka kb l1 l2).get? (Cv s.heap ka l1).objs.size=some _:=fR _ (fR _ (fR _ (fW _ rfl)))
 have g1:(sX s.heap ka kb l1 l2).get? s.heap.objs.size=some _:=fR _ (fR _ (fR _ (fR _ (fW _ rfl))))
 show _/\_
 rw[z2,z3,z4] at g5
 rw[z1,z2] at g3
 rw[z3] at g4
 rw[z1] at g2
 rw[z4]
 exact⟨⟨_,g5,rfl⟩,h _ g5 g3 g4 ⟨_,g1,rfl,rfl⟩ ⟨_,g2,rfl,rfl⟩ z5 λ c o x=>
  fR _ (fR _ (fR _ (fR _ (fR _ x))))⟩
end
theorem HS:((x0+(1:Int))+((x1:Nat):Int))=(x0+(((x1:Nat):Int)+(1:Int))):=Vq.symm
theorem HT(h0:x0<x1):(0:Int)<(((x1:Nat):Int)-((x0:Nat):Int)):=Int.sub_pos_of_lt (jk h0)
theorem HU:(((x0:Nat):Int)-(((x1:Nat):Int)+(1:Int)))=((((x0:Nat):Int)-((x1:Nat):Int))-(1:Int)):=(Int.sub_sub _ _ _).symm
theorem HV:(((x0:Nat):Int)-((x0:Nat):Int))<=(0:Int):=Int.le_of_eq (Int.sub_self _)
structure Iter (B:Base) (Z':Nat->Prop) (tgt:Expr) (it:Value) (I W:Nat->Prop) (items:List V) (dG:H->Prop) (St:Nat->Heap->Prop):Prop where
 live:∀{i h},St i h->∀b,I b->aR h b
 iz:∀b,I b->Z' b
 keep:∀{i h h'},St i h->(∀b o,I b\/W b->h.get? b=some o->h'.get? b=some o)->gQ Z' h h'->St i h'
 item:∀{A:Around} {H:Mine.H} {s:Shared} {i:Nat} {v:V} {Q:Option Value->Shared->Prop} {E:Value->Shared->Prop},A.handled=none->St i s.heap->Rel (B.with Z') H s.heap->(∀b,I b->¬j5 H s.heap b)->dG H->items[i]?=some v->
  (∀y h' tk,RV Z' h' v y->St (i+1) h'->(∀b o,¬I b->s.heap.get? b=some o->h'.get? b=some o)->Q (some y) {s with heap:=h',toks:=tk})->
  wpAny (model B.prog B.w) A (pyNext it) (λ r aW=>match r with|none=>Q none aW|some y=>wpAny (model B.prog B.w) A (letOwnedTupleGo tgt it y) (λ u0 oI=>Q (some y) oI) E aW) E s
 done:∀{A:Around} {H:Mine.H} {s:Shared} {Q:Option Value->Shared->Prop} {E:Value->Shared->Prop},A.handled=none->St items.length s.heap->Rel (B.with Z') H s.heap->(∀b,I b->¬j5 H s.heap b)->dG H->
  (∀h' tk,(∀b o,¬I b->s.heap.get? b=some o->h'.get? b=some o)->Q none {s with heap:=h',toks:=tk})->
  wpAny (model B.prog B.w) A (pyNext it) Q E s
 self:∀{i:Nat} {A:Around} {s:Shared} {Q:Value->Shared->Prop} {E:Value->Shared->Prop},St i s.heap->Q it s->wpAny (model B.prog B.w) A (pyIter it) Q E s
section
variable {B : Base} {Z' : Nat -> Prop} {H : Mine.H} {h h' : Heap} {s : Shared} {A : Around} {E : Value -> Shared -> Prop} {tgt : Expr}
noncomputable abbrev one(a:Nat):Nat->Prop:=λ b=>b=a
theorem vm{Q:Unit->Shared->Prop}(x:aP k s.heap it a i)(q:Q () s):wpAny (model B.prog B.w) A (letOwnedTupleGo tgt (.ref it) v) Q E s:=by
 refine ik x λ o e c u0=>?_
 exact iC e c (by cases k<;>decide) q
inductive Src:V->Kd->Nat->List V->(Mine.H->Prop)->Prop
 |list {a l}:Src (.ref a) .list a l (λ H:Mine.H=>H a=some (.list l))
 |tup {a l}:Src (.tup l) .tuple a l (λ u0=>True)
noncomputable def gO(Z:Nat->Prop)(h:Heap):Kd->Nat->List V->Prop
 | .list,_,_=>True
 | .tuple,a,l=>RV Z h (.tup l) (.ref a)
theorem gO.bx{Z:Nat->Prop}(x:gO Z h k a l)(t:gQ Z h h'):gO Z h' k a l:=by
 cases k
 ·trivial
 ·exact RV.bx t x
set_option tactic.hygienic true in
theorem Src.seq {c : Mine.H -> Prop} (x : Src v k a l c) (R : Rel B H h) (hc : c H) (ok : gO B.Z h k a l) : ∃ xs, SeqAt k h a xs /\ cx B.Z h l xs.toList /\ xs.size = l.length := by
  cases x with
  | list =>
    refine lk (R.bS hc) λ xs n e z r hs => ?_
    exact ⟨xs, ⟨_, e, rfl, n, rfl⟩, r, hs⟩
  | tup =>
    refine CH (id (ie ok)) λ _ _ _ _ e _ r q => ?_
    rename_i e0 _
    injection e0 with u1; subst u1
    exact ⟨_, ⟨_, e, rfl, _, rfl⟩, r, q⟩
theorem Iter.seq{c:Mine.H->Prop}(hz:Z' it)(x:Src v k a l c):
  Iter B Z' tgt (.ref it) (one it) bH l c (λ i h=>aP k h it a i/\gO Z' h k a l) where
 live:=λ st b e=>e ▸ st.1.live
 iz:=λ b e=>e ▸ hz
 keep:=λ st k t=>⟨st.1.at' λ o e=>k _ o (.inl rfl) e,st.2.bx t⟩
 item:=λ{A H s i v Q E} oa st R no hc hv hQ=>by
  refine ik (x.seq (B:=B.with Z') R hc st.2) λ xs sq r hs=>?_
  refine aG (eV r hv) λ y hy ry=>?_
  refine y8 st.1 sq hy λ h' LB rC=>?_
  have kk:∀b o,¬one it b->s.heap.get? b=some o->h'.get? b=some o:=λ b o n e=>(rC.2 b n).trans e
  have tp:gQ Z' s.heap h':=cy (I:=one it) (λ b e=>e ▸ hz) kk
  exact vm LB (hQ y h' s.toks (ry.bx tp) ⟨LB,st.2.bx tp⟩ kk)
 done:=λ{A H s Q E} oa st R no hc hQ=>by
  refine ik (x.seq (B:=B.with Z') R hc st.2) λ xs sq r hs=>?_
  exact Dn oa st.1 sq (Array.getElem?_eq_none (by exact ai [_,_] X0 X1 1 X0 X1 rfl (bw hs))) λ h' e=>hQ h' s.toks λ b o n eo=>e b o n eo
 self:=λ st q=>HP st.1 q
theorem Iter.keys(hz:Z' it)(hk:bY.map (·.1)=es.map (·.1)):
  Iter B Z' tgt (.ref it) (one it) (one a) (es.map λ p=> .int p.1) (λ H:Mine.H=>H a=some (.ao es)) (λ i h=>h.IsKeyIter it a i bY.length ep/\h.DictAt (intKind B.prog B.w) a bY ep) where
 live:=λ st b e=>e ▸ (by refine aG st.1 λ o e u0=>?_;exact⟨o,e⟩)
 iz:=λ b e=>e ▸ hz
 keep:=λ st k t=>⟨by refine aG st.1 λ o e r=>?_;exact⟨o,k _ o (.inl rfl) e,r⟩,by refine fh st.2 λ o es e r=>?_;exact⟨o,es,k _ o (.inr rfl) e,r⟩⟩
 item:=λ{A H s i v Q E} oa st R no hc hv hQ=>by
  rw[List.getElem?_map] at hv
  have e1:(bY.map (·.1))[i]?=(es.map (·.1))[i]?:=by rw[hk]
  rw[List.getElem?_map,List.getElem?_map] at e1
  cases e2:es[i]? with
  |none=>rw[e2] at hv;exact dD hv
  |some p=>
   rw[e2] at hv e1
   obtain rfl:=c8 hv
   cases e3:bY[i]? with
   |none=>rw[e3] at e1;exact dD e1
   |some q=>
    rw[e3] at e1
    obtain⟨q1,q2⟩:=q
    injection e1 with e1
    refine wpAny_pyNext_dict_item st.1 st.2 e3 λ rU h' Nh LB rC=>?_
    refine aK (Value.isInt_shape Nh) λ t ak=>?_;obtain rfl:=ak
    have ne:a≠it:=by
     rintro rfl
     refine ik st.1 λ o eo c u0=>?_
     refine nQ st.2 λ o' tX Wb c' u0=>?_
     rw[eo] at Wb;obtain rfl:=c8 Wb
     rw[c'.1] at c;injection c with c;revert c;decide
    have kk:∀b o,¬one it b->s.heap.get? b=some o->h'.get? b=some o:=λ b o n e=>(rC.2 b n).trans e
    refine ik (id LB) λ o eo c u0=>?_
    have e4:q1=p.1:=e1
    subst e4
    refine iC eo c (by decide) (hQ _ h' s.toks .int ⟨LB,by refine fh st.2 λ o es e r=>?_;exact⟨o,es,kk _ o ne e,r⟩⟩ kk)
 done:=λ{A H s Q E} oa st R no hc hQ=>by
  have hl:bY.length=es.length:=by have:=congrArg List.length hk;simpa using this
  exact wpAny_pyNext_dict_end oa st.1 st.2 (List.getElem?_eq_none (by rw[dR];exact ai [_,_] X0 X1 1 X0 X1 rfl (bw hl))) λ h' e=>hQ h' s.toks λ b o n eo=>e b o n eo
 self:=λ st q=>wpAny_pyIter_keyiter st.1 q
theorem gx(a:Int)(n:Nat):(dH a n).length=n:=by
 induction n generalizing a with
 |zero=>rfl
 |succ n ih=>simp[dH,ih]
theorem BL(a:Int)(n:Nat)(h:(dH a n)[i]?=some v):v=.int (a+i)/\i<n:=by
 induction n generalizing a i with
 |zero=>exact dD h
 |succ n ih=>
  cases i with
  |zero=>simp[dH] at h;subst h;exact⟨by simp,by exact aL [_] (Pl (Nm 0) (Nm 1)) (Pl X0 (Nm 1)) rfl⟩
  |succ i=>
   simp only[dH,List.getElem?_cons_succ] at h
   refine bV (ih _ h) λ e l=>?_
   refine⟨?_,by exact ai [_,_] (Pl (Pl X0 (Nm 1)) (Nm 1)) (Pl X1 (Nm 1)) 1 (Pl X0 (Nm 1)) X1 rfl l⟩
   rw[e];congr 1;push_cast;exact HS
theorem Iter.range(hz:Z' it):Iter B Z' tgt (.ref it) (one it) bH (dH 0 n) (λ u0=>True) (λ i h=>IsRangeIter h it i ((n:Int)-i) 1) where
 live:=λ st b e=>e ▸ ⟨_,st⟩
 iz:=λ b e=>e ▸ hz
 keep:=λ st k t=>k _ _ (.inl rfl) st
 item:=λ{A H s i v Q E} oa st R no hc hv hQ=>by
  refine bV (BL _ _ hv) λ ak hi=>?_;obtain rfl:=ak
  refine wpAny_pyNext_range_item st (by exact HT hi) λ h' LB rC=>?_
  refine iC LB rfl (by decide) (hQ _ h' (s.toks+1) (by rw[Int.zero_add];exact .int) ?_ λ b o n e=>(rC.2 b n).trans e)
  have e1:((i+1:Nat):Int)=i+1:=by push_cast;rfl
  have e2:(n:Int)-((i+1:Nat):Int)=(n:Int)-i-1:=by push_cast;exact HU
  rw[e2,e1];exact LB
 done:=λ{A H s Q E} oa st R no hc hQ=>by
  rw[gx] at st
  exact wpAny_pyNext_range_end oa st (by exact HV) λ h' e=>hQ h' s.toks λ b o n eo=>e b o n eo
 self:=λ st q=>wpAny_pyIter_rangeiter st q
end
theorem HW:((x0+(1:Int))+((x1:Nat):Int))=(x0+(((x1:Nat):Int)+(1:Int))):=Vq.symm
section
variable {B : Base} {Z' : Nat -> Prop} {H : Mine.H} {h h' : Heap} {s : Shared} {A : Around} {E : Value -> Shared -> Prop} {tgt : Expr}
theorem EL{n:Int}{i:Nat}(h:(iK n l)[i]?=some v):∃x,l[i]?=some x/\v=.tup [.int (n+i),x]:=by
 induction l generalizing n i with
 |nil=>exact dD h
 |cons a l ih=>
  cases i with
  |zero=>simp[iK] at h;subst h;exact⟨a,rfl,by simp⟩
  |succ i=>
   simp only[iK,List.getElem?_cons_succ] at h
   refine aG (ih h) λ x e ak=>?_;obtain rfl:=ak
   refine⟨x,e,?_⟩
   congr 3;push_cast;exact HW
theorem pP:(iK n l).length=l.length:=by
 induction l generalizing n with
 |nil=>rfl
 |cons a l ih=>simp[iK,ih]
theorem Iter.enum{x1}{pos:Pos}(hz:l.length<=aZ)(hZ:∀b,b=e\/b=it->Z' b):
  Iter B Z' (.Tuple oJ x1 pos) (.ref e) (λ b=>b=e\/b=it) bH (iK 0 l) (λ H:Mine.H=>H a=some (.list l)) (λ i h=>(∃DR,IsEnum h e it i DR)/\aP .list h it a i/\e≠it) where
 live:=λ st b q=>by
  rcases q with rfl|rfl
  ·refine aK st.1 λ u0 x=>?_;exact⟨_,x⟩
  ·exact st.2.1.live
 iz:=hZ
 keep:=λ st k t=>⟨by refine aK st.1 λ DR x=>?_;exact⟨DR,k _ _ (.inl (.inl rfl)) x⟩,st.2.1.at' λ o e=>k _ o (.inl (.inr rfl)) e,st.2.2⟩
 item:=λ{A H s i v Q E} oa st R no hc hv hQ=>by
  refine aG (EL hv) λ x hx ak=>?_;obtain rfl:=ak
  refine fy st λ ak vq jN=>?_;refine aK ak λ DR he=>?_
  refine lk (R.bS hc) λ xs n el z r hs=>?_
  refine aG (eV r hx) λ y hy ry=>?_
  refine wpAny_pyNext_enum_item he vq ⟨_,el,rfl,n,rfl⟩ hy jN λ h' ho U5 hT hsz hk=>?_
  refine wpAny_letOwnedTupleGo_enum ho λ oA Td rC=>?_
  have kk:∀b o,¬(b=e\/b=it)->s.heap.get? b=some o->oA.get? b=some o:=λ b o n e'=>(rC.2 b λ q=>n (.inl q)).trans (hk b o (λ q=>n (.inl q)) (λ q=>n (.inr q)) e')
  have tp:gQ Z' s.heap oA:=cy hZ kk
  have XG:s.heap.objs.size≠e:=Nat.ne_of_gt (iI he)
  have Pg:oA.get? s.heap.objs.size=some (uH #[.int i s.toks,y] 0):=(rC.2 _ XG).trans hT
  refine hQ _ oA (s.toks+1) (.tup Pg (R.ql (bW (bE _))) (by simp[aZ]) ?_) ⟨⟨y,by simpa using Td⟩,aP.at' (k:=.list) U5 λ o q=>(rC.2 it jN.symm).trans q,jN⟩ kk
  exact .cons (by rw[Int.zero_add];exact .int) (.cons (ry.bx tp) .nil)
 done:=λ{A H s Q E} oa st R no hc hQ=>by
  refine fy st λ ak vq jN=>?_;refine aK ak λ DR he=>?_
  refine lk (R.bS hc) λ xs n el z r hs=>?_
  rw[pP] at he vq
  exact wpAny_pyNext_enum_end oa he vq ⟨_,el,rfl,n,rfl⟩ (Array.getElem?_eq_none (by exact ai [_,_] X0 X1 1 X0 X1 rfl (bw hs))) λ h' e'=>hQ h' s.toks λ b o n eo=>e' b o (λ q=>n (.inr q)) eo
 self:=λ st q=>by
  refine fy st λ ak u0 u0=>?_;refine aK ak λ DR he=>?_
  exact wpAny_pyIter_enum he q
theorem y9{i:Nat}(h:(iQ x y)[i]?=some v):∃a b,x[i]?=some a/\y[i]?=some b/\v=.tup [a,b]:=by
 induction x generalizing y i with
 |nil=>simp[iQ] at h
 |cons a x ih=>
  cases y with
  |nil=>simp[iQ] at h
  |cons b y=>
   cases i with
   |zero=>simp[iQ] at h;subst h;exact⟨a,b,rfl,rfl,rfl⟩
   |succ i=>simp only[iQ,List.getElem?_cons_succ] at h⊢;exact ih h
theorem i3:(iQ x y).length=min x.length y.length:=by
 induction x generalizing y with
 |nil=>simp[iQ]
 |cons a x ih=>
  cases y with
  |nil=>simp[iQ]
  |cons b y=>exact(congrArg (·+1) ih).trans (Nat.add_min_add_right _ _ _).symm
noncomputable def qm(z TO i1 i2:Nat):Nat->Prop:=λ b=>b=z\/b=TO\/b=i1\/b=i2
noncomputable abbrev Ge(Z':Nat->Prop)(ka kb:Kd)(z TI TO i1 i2 l1 l2:Nat)(x y:List V)(i:Nat)(h:Heap):Prop:=
 IsZip h z TI TO .none/\IsPair h TI (.ref i1) (.ref i2)/\(∃a b,IsPair h TO a b)/\aP ka h i1 l1 i/\aP kb h i2 l2 i/\gO Z' h ka l1 x/\gO Z' h kb l2 y
theorem Iter.zip{z TI TO i1 i2 l1 l2:Nat}{c d:Mine.H->Prop}{x1}{pos:Pos}(D:ZipApart z TI TO i1 i2 l1 l2)(hZ:∀b,qm z TO i1 i2 b->Z' b)(oC:¬Z' TI)
  (sx:Src v ka l1 x c)(sy:Src w kb l2 y d):
  Iter B Z' (.Tuple oJ x1 pos) (.ref z) (qm z TO i1 i2) bH (iQ x y) (λ H=>c H/\d H) (Ge Z' ka kb z TI TO i1 i2 l1 l2 x y) where
 live:=λ st b q=>by
  refine Vj st λ hz u0 ak h1 h2 u0=>?_;refine gN ak λ u0 u0 nu=>?_
  rcases q with rfl|rfl|rfl|rfl
  ·exact⟨_,hz⟩
  ·exact⟨_,nu⟩
  ·exact h1.live
  ·exact h2.live
 iz:=hZ
 keep:=λ st k t=>by
  refine Oy st λ hz yc ak h1 h2 s1 s2=>?_;refine gN ak λ a b nu=>?_
  exact⟨k _ _ (.inl (.inl rfl)) hz,t.tup _ _ yc (f6 _ _) oC,⟨a,b,k _ _ (.inl (.inr (.inl rfl))) nu⟩,h1.at' λ o e=>k _ o (.inl (.inr (.inr (.inl rfl)))) e,h2.at' λ o e=>k _ o (.inl (.inr (.inr (.inr rfl)))) e,s1.bx t,s2.bx t⟩
 item:=λ{A H s i v Q E} oa st R no hc hv hQ=>by
  refine nQ (y9 hv) λ a b ha hb ak=>?_;obtain rfl:=ak
  refine Oy st λ hz yc ak h1 h2 s1 s2=>?_;refine gN ak λ a0 b0 nu=>?_
  refine ik (sx.seq (B:=B.with Z') R hc.1 s1) λ xs q1 r1 e1=>?_
  refine ik (sy.seq (B:=B.with Z') R hc.2 s2) λ ys q2 r2 e2=>?_
  refine aG (eV r1 ha) λ p hp rp=>?_
  refine aG (eV r2 hb) λ q hq rq=>?_
  refine vP D hz yc nu h1 h2 q1 q2 hp hq λ h' a1 a2 a3 a4 a5 a6 a7=>?_
  refine wpAny_letOwnedTupleGo_zip a1 λ oA XH rC=>?_
  have kk:∀b o,¬qm z TO i1 i2 b->s.heap.get? b=some o->oA.get? b=some o:=λ b o n e'=>
   (rC.2 b λ q=>n (.inl q)).trans (a7 b o (λ q=>n (.inl q)) (λ q=>n (.inr (.inl q))) (λ q=>n (.inr (.inr (.inl q)))) (λ q=>n (.inr (.inr (.inr q)))) e')
  have tp:gQ Z' s.heap oA:=cy hZ kk
  have XI:s.heap.objs.size≠z:=Nat.ne_of_gt (iI hz)
  have Pg:oA.get? s.heap.objs.size=some (uH #[p,q] 0):=(rC.2 _ XI).trans a5
  refine hQ _ oA s.toks (.tup Pg (R.ql (bW (bE _))) (by simp[aZ]) (.cons (rp.bx tp) (.cons (rq.bx tp) .nil))) ?_ kk
  exact⟨XH,tp.tup _ _ yc (f6 _ _) oC,⟨p,q,(rC.2 _ D.TOz).trans a2⟩,a3.at' λ o q=>(rC.2 _ D.i1z).trans q,a4.at' λ o q=>(rC.2 _ D.i2z).trans q,s1.bx tp,s2.bx tp⟩
 done:=λ{A H s Q E} oa st R no hc hQ=>by
  refine Oy st λ hz yc ak h1 h2 s1 s2=>?_;refine gN ak λ a0 b0 nu=>?_
  refine ik (sx.seq (B:=B.with Z') R hc.1 s1) λ xs q1 r1 e1=>?_
  refine ik (sy.seq (B:=B.with Z') R hc.2 s2) λ ys q2 r2 e2=>?_
  rw[i3] at h1 h2
  refine vQ oa D hz yc nu h1 h2 q1 q2 ?_ λ h' k=>hQ h' s.toks λ b o n eo=>k b o (λ q=>n (.inl q)) (λ q=>n (.inr (.inl q))) (λ q=>n (.inr (.inr (.inl q)))) (λ q=>n (.inr (.inr (.inr q)))) eo
  by_cases q:x.length<=y.length
  ·exact .inl (Array.getElem?_eq_none (cV (bw e1) (Nat.le_min.mpr ⟨bE _,q⟩)))
  ·exact .inr (Array.getElem?_eq_none (cV (bw e2) (Nat.le_min.mpr ⟨Nat.le_of_not_le q,bE _⟩)))
 self:=λ st q=>wpAny_pyIter_zip st.1 q
end
section
noncomputable def Ph:Ab->Str
 | .dB=>"Procedure"| .ct=>"LowBlock"| .dy=>"LowUnit"| .fC=>"MoveRow"| .ge=>"Emitter"| .Apart=>"Apart"| .Places=>"Places"
noncomputable abbrev oS(s:Str):Option Str:=some s
noncomputable def oN:Option Str:=none
noncomputable def CA(x:Sy):Option Str:=CJ none [oN,oN,oN,oN,oN,oN,oN,oN,oN,oN,oN,oS "CALL",oS "GIVE",oS "GOTO",oS "BRANCH"] x.val
noncomputable def U6:List (Option Str):=[oN,oS "operand_pairs",oS "registers_read",oS "registers_written",oN,oN,oN,oS "end_reads",oS "end_blocks",oN,oN,oN,oN,oN,oN,oS "move_steps",oS "needs_scratch",oS "placed_row",oS "placed_tuple",oS "placed_op",oN,oN,oN,oN,oN,oN,oN,oN,oS "first_unmet",oS "layout",oS "procedure_of",oS "mask_of",oS "bits_of",oS "is_in",oS "without",oS "live_at_end",oS "live_ahead",oS "live_behind",oS "live_at_begin",oS "begins_of",oS "blocks_ahead",oN,oN,oS "put_op",oS "apart_of",oS "given_order",oS "wishes_of",oN,oS "taken_places",oS "lowest_free",oS "chosen_place",oS "places_of",oS "_law_draw",oS "_law_op",oS "_law_block",oS "_law_some",oS "_law_unit",oS "_law_told",oS "_law_do",oS "_law_walk",oS "_law_run",oN]
noncomputable def SA(x:Fn):Option Str:=CJ none U6 x.val
noncomputable def Tv:Bi->Option Str
 | .len=>some "len"| .listOf=>some "list"| .tupleOf=>some "tuple"| .any=>some "any"| .max=>some "max"| .int=>some "int"| .dictOf=>some "dict"|_=>none
noncomputable def Wc:Bi->Option Str
 | .append=>some "append"| .extend=>some "extend"| .uA=>some "pop"| .iP=>some "pop"| .get=>some "get"|_=>none
noncomputable def oK(scope sc:Scope):Scope:=
 {scope with names:=scope.names.map λ(n,k)=>if(k== .free&&sc.names.lookup n==some .cell) then(n,.cell) else(n,k)}
noncomputable def AV(scope sc:Scope)(ρ:fS)(x:Str)(bp:Nat):Bool:=
 scope.kind== .function&&scope.names.lookup x==some .local&&ρ.all (λ p=>p.2 !=bp)&&(ρ.lookup (".0":Str)).isNone&&(x !=(".0":Str))&&
 scope.names.all (λ y=>y.2 != .cell&&(y.2 != .local||(scope.names.lookup y.1==some .local&&(y.1==x||y.1==(".0":Str))))&&
  (y.2 != .free||((ρ.lookup y.1).isSome&&sc.names.lookup y.1==some .cell)))
noncomputable def cg(sc:Scope)(x:Str):Bool:=sc.names.lookup x==some .globalImplicit&&x !=("__debug__":Str)
noncomputable def d5(sc:Scope)(ρ:fS)(x:Str)(i:Nat):Bool:=ρ.lookup x==some i&&(sc.names.lookup x==some .local||sc.names.lookup x==some .cell)&&x !=("__debug__":Str)
noncomputable def Ay(ne:Bool):CmpOp:=if ne then .NotEq else .Eq
noncomputable def yd:It->Bool
 | .keys _=>true
 |_=>false
noncomputable def SD:It->Bool
 | .zip _ _=>false
 | .enum _=>false
 |_=>true
noncomputable def U7:It->Bool
 | .zip _ _=>true
 | .range _=>true
 |_=>false
mutual
noncomputable def fU:Ex->Bool
 | .attr e _=>fU e
 | .sub e i=>fU e&&fU i
 | .Dt i=>fU i
 | .cut e _=>fU e
 | .bin _ l r=>fU l&&fU r
 | .cmp _ l r=>fU l&&fU r
 | .chain l m r=>fU l&&fU m&&fU r
 | .fG _ e=>fU e
 | .ju _ e=>fU e
 | .nU l r=>fU l&&fU r
 | .or es=>jM es
 | .and es=>jM es
 | .not e=>fU e
 | .ite c t f=>fU c&&fU t&&fU f
 | .list es=>jM es
 | .tup es=>jM es
 | .q0 k v=>fU k&&fU v
 | .comp e _ it c=>fU e&&OH it&&jM c
 | .call _ _=>false
 | .new _ _=>false
 | .eF e m es=>decide (m=.cv)&&fU e&&jM es
 | .bi _ es=>jM es
 | .jt b e es=>decide (b≠.iP)&&fU e&&jM es
 | .gI it=>OH it
 |_=>true
noncomputable def jM:Es->Bool
 | .nil=>true
 | .cons e es=>fU e&&jM es
noncomputable def OH:It->Bool
 | .of e=>fU e
 | .keys e=>fU e
 | .range e=>fU e
 | .zip a b=>fU a&&fU b
 | .enum e=>fU e
end
mutual
noncomputable def mE (sc:Scope) (ρ:fS) (t:Bool):Ex->Expr->Bool
 | .none,x=>(gK x).any λ q=>decide (q.1.1=.none)
 | .bool b,x=>(gK x).any λ q=>decide (q.1.1=.bool b)
 | .int i,x=>((gK x).any λ q=>decide (q.1.1=.int i))||(O8 x).any λ q=>decide (q.1.1=.USub)&&(gK q.1.2.1).any λ c=>decide (c.1.1=.int (-i))
 | .str s,x=>(gK x).any λ q=>decide (q.1.1=.str (jn s))
 | .qh s,x=>(rj x).any λ y=>cg sc y.1.1&&CA s==some y.1.1
 | .var i,x=>(rj x).any λ y=>d5 sc ρ y.1.1 i
 | .attr e a,x=>(F6 x).any λ q=>eJ q.1.1&&q.1.2.1==gz a&&mE sc ρ false e q.1.1
 | .sub e i,x=>(Cm x).any λ q=>jv q.1.2.1&&mE sc ρ false e q.1.1&&mE sc ρ false i q.1.2.1
 | .Dt i,x=>(Cm x).any λ q=>((rj q.1.1).any λ y=>y.1.1==("OPERANDS":Str))&&cg sc ("OPERANDS":Str)&&jv q.1.2.1&&mE sc ρ false i q.1.2.1
 | .cut e k,x=>(Cm x).any λ q=>Cs k q.1.2.1&&mE sc ρ false e q.1.1
 | .bin o l r,x=>(U0 x).any λ q=>decide (q.1.2.1=Jm o)&&mE sc ρ false l q.1.1&&mE sc ρ false r q.1.2.2.1
 | .cmp o l r,x=>(Cn x).any λ q=>decide (q.1.2.1=Cq o)&&fz q.1.2.2.1&&mE sc ρ false l q.1.1&&mE sc ρ false r q.1.2.2.1
 | .chain l m r,x=>(P6 x).any λ q=>t&&decide (q.1.2.1=[.LtE,.Lt])&&mE sc ρ false l q.1.1&&(Nu q.1.2.2.1).any λ b=>fz b.1.2&&mE sc ρ false m b.1.1&&mE sc ρ false r b.1.2
 | .fG ne e,x=>(Cn x).any λ q=>t&&decide (q.1.2.1=Ay ne)&&GC q.1.2.2.1&&mE sc ρ false e q.1.1
 | .ju ne e,x=>(Cn x).any λ q=>t&&decide (q.1.2.1=Ay ne)&&AQ q.1.2.2.1&&mE sc ρ false e q.1.1
 | .nU l r,x=>(Cn x).any λ q=>(t&&decide (q.1.2.1=.NotEq))&&fz q.1.2.2.1&&mE sc ρ false l q.1.1&&mE sc ρ false r q.1.2.2.1
 | .or es,x=>(Mi x).any λ q=>decide (q.1.1=.Or)&&!q.1.2.1.isEmpty&&CR sc ρ t es q.1.2.1
 | .and es,x=>(Mi x).any λ q=>decide (q.1.1=.And)&&t&&CR sc ρ t es q.1.2.1
 | .not e,x=>(O8 x).any λ q=>decide (q.1.1=.Not)&&t&&mE sc ρ t e q.1.2.1
 | .ite c t' f,x=>(Xr x).any λ q=>!t&&mE sc ρ true c q.1.1&&mE sc ρ false t' q.1.2.1&&mE sc ρ false f q.1.2.2.1
 | .list es,x=>(Mq x).any λ q=>q.1.1.all aN&&CR sc ρ false es q.1.1
 | .tup es,x=>(Nt x).any λ q=>q.1.1.all aN&&CR sc ρ false es q.1.1
 | .lB _,x=>AQ x
 | .q0 k v,x=>(F5 x).any λ q=>(nA q.1.1).any λ a=>(xX a.1).any λ a'=>(nA q.1.2.1).any λ b=>(P8 k).any λ i=>(P9 v).any λ c=>((gK a'.1).any λ q=>decide (q.1.1=.int i.1))&&(gK b.1).any λ q=>decide (q.1.1=.bool c.1)
 | .comp gy bp it cond,x=>(Rj x).any λ q=>(AV q.1.2.2.2.2.1 sc ρ q.1.2.1 bp&&fz q.1.2.2.1&&SD it&&(!yd it||(fU gy&&jM cond)))&&SF sc ρ it q.1.2.2.1&&mE (oK q.1.2.2.2.2.1 sc) ((q.1.2.1,bp)::ρ) false gy q.1.1&&CR (oK q.1.2.2.2.2.1 sc) ((q.1.2.1,bp)::ρ) true cond q.1.2.2.2.1
 | .call f es,x=>(jR x).any λ q=>cg sc q.1.1&&SA f==some q.1.1&&q.1.2.1.all aN&&CR sc ρ false es q.1.2.1
 | .new c es,x=>(jR x).any λ q=>cg sc q.1.1&&Ph c==q.1.1&&q.1.2.1.all aN&&CR sc ρ false es q.1.2.1
 | .eF e m es,x=>(GD x).any λ q=>q.1.2.1==gz m&&mE sc ρ false e q.1.1&&CR sc ρ false es q.1.2.2.1
 | .bi b es,x=>(jR x).any λ q=>cg sc q.1.1&&Tv b==some q.1.1&&q.1.2.1.all aN&&CR sc ρ false es q.1.2.1
 | .jt b e es,x=>(GD x).any λ q=>Wc b==some q.1.2.1&&mE sc ρ false e q.1.1&&CR sc ρ false es q.1.2.2.1
 | .gI it,x=>(jR x).any λ q=>cg sc ("list":Str)&&q.1.1==("list":Str)&&U7 it&&(nA q.1.2.1).any λ a=>SF sc ρ it a.1
noncomputable def CR (sc:Scope) (ρ:fS) (t:Bool):Es->List Expr->Bool
 | .nil,xs=>xs.isEmpty
 | .cons e es,xs=>match xs with|x::xs=>mE sc ρ t e x&&CR sc ρ t es xs|[]=>false
noncomputable def SF (sc:Scope) (ρ:fS):It->Expr->Bool
 | .of e,x=>mE sc ρ false e x
 | .keys e,x=>mE sc ρ false e x
 | .range e,x=>(jR x).any λ q=>cg sc ("range":Str)&&q.1.1==("range":Str)&&(nA q.1.2.1).any λ a=>aN a.1&&mE sc ρ false e a.1
 | .zip a b,x=>(jR x).any λ q=>cg sc ("zip":Str)&&q.1.1==("zip":Str)&&(Nu q.1.2.1).any λ q=>(aN q.1.1&&aN q.1.2)&&mE sc ρ false a q.1.1&&mE sc ρ false b q.1.2
 | .enum e,x=>(jR x).any λ q=>cg sc ("enumerate":Str)&&q.1.1==("enumerate":Str)&&(nA q.1.2.1).any λ a=>aN a.1&&mE sc ρ false e a.1
end
section
variable {prog : Program} {w : World} {A : Around} {E : Value -> Shared -> Prop} {s : Shared} {env : Env}
theorem tT(h:eJ o=true)(a:Str)(t:Sem Value):attributeBase o a env t=t:=by
 unfold attributeBase
 cases o<;>first|rfl|cases h
theorem N8{pos:Pos}{Q:Value->Shared->Prop}(hb:eJ v=true)
  (h:wpAny (model prog w) A (eval v env) (λ o aW=>wpAny (model prog w) A (getAttr o a true) Q E aW) E s):wpAny (model prog w) A (eval (.Attribute v a pos) env) Q E s:=
 Attribute_any_ h (by rw[arm_eval_Attribute,tT hb])
theorem dC(h:aN e=true):starEach (e::rJ) env=(false,eval e env)::starEach rJ env:=by
 cases e<;>first|rfl|cases h
theorem qI{pos:Pos}(h:xs.all aN=true):(backTo pos (starEach xs env)).any (·.1)=false:=by
 induction xs with
 |nil=>rfl
 |cons e l ih=>
  rw[List.all_cons,Bool.and_eq_true] at h
  rw[dC h.1]
  show(false||(backTo pos (starEach l env)).any (·.1))=false
  rw[ih h.2];rfl
theorem HX{pos:Pos}(h:xs.all aN=true):(backTo pos (starEach xs env)).all (!·.1)=true:=by
 induction xs with
 |nil=>rfl
 |cons e l ih=>
  rw[List.all_cons,Bool.and_eq_true] at h
  rw[dC h.1]
  show(!false&&(backTo pos (starEach l env)).all (!·.1))=true
  rw[ih h.2];rfl
theorem AW{pos:Pos}{Q:Args->Shared->Prop}(h:xs.all aN=true)
  (hq:wpAny (model prog w) A (spliced (backTo pos (starEach xs env))) (λ vs aW=>Q ⟨vs,[]⟩ aW) E s):wpAny (model prog w) A (evalArgs f true (backTo pos (starEach xs env)) []) Q E s:=by
 cases xs with
 |nil=>
  unfold evalArgs
  show wpAny _ A (spliced []>>=_) Q E s
  refine aq (cW hq (λ vs s' h'=>?_) λ u0 u0 x=>x)
  refine wpAny_holding ?_
  exact aq (a8 (aq (a8 (a8 h'))))
 |cons e l=>
  rw[List.all_cons,Bool.and_eq_true] at h
  rw[dC h.1] at hq⊢
  exact Calls.evalArgs_plain hq
theorem th{np pos:Pos}{Q:Value->Shared->Prop}
  (h:wpAny (model prog w) A (eval (.Name y np) env) (λ f aW=>wpAny (model prog w) A (callWith pos f [] (backTo pos (starEach xs env)) []) Q E aW) E s):wpAny (model prog w) A (eval (.Call (.Name y np) xs [] pos) env) Q E s:=
 Call_ h
theorem ti{pos:Pos}{Q:Value->Shared->Prop}(hx:xs.all aN=true)
  (h:wpAny (model prog w) A (spliced (backTo pos (starEach xs env))) (λ vs aW=>wpAny (model prog w) A (call (.type T) vs) Q E aW) E s):wpAny (model prog w) A (callWith pos (.type T) [] (backTo pos (starEach xs env)) []) Q E s:=
 PySem.callWith_type (qI hx) (AW hx h)
theorem mX{id:String}{pos:Pos}{Q:Value->Shared->Prop}(hx:xs.all aN=true)
  (h:wpAny (model prog w) A (spliced (backTo pos (starEach xs env))) (λ vs aW=>wpAny (model prog w) A (call (.builtin id) (first++vs)) Q E aW) E s):wpAny (model prog w) A (callWith pos (.builtin id) first (backTo pos (starEach xs env)) []) Q E s:=
 Calls.callWith_builtin (qI hx) (AW hx h)
theorem Gf{K:W.Frag}{a:Nat}{first:List Value}{xs:List Expr}{pos:Pos}{Q:Value->Shared->Prop}(hx:xs.all aN=true)(hk:W.keepIn K (.ref a)=true)
  (h:wpAny (model prog w) A (spliced (backTo pos (starEach xs env))) (λ vs aW=>K.In aW.heap/\wpAny (model prog w) A (call (.ref a) (first++vs)) Q E aW) E s):wpAny (model prog w) A (callWith pos (.ref a) first (backTo pos (starEach xs env)) []) Q E s:=
 W.callWith_of (by rw[qI hx];rfl) (W.keeps_K hk) (AW hx h)
theorem zb{ap pos:Pos}{Q:Value->Shared->Prop}(hb:eJ o=true)(hl:(ap.endLine==pos.line)=true)(hn:xs.length<20)(hx:xs.all aN=true)
  (h:∀pl,wpAny (model prog w) A (eval o env) (λ ov aW=>wpAny (model prog w) A (getMethod ov n pl) (λ fx oI=>wpAny (model prog w) A (callWith pos fx.1 fx.2 (backTo pos (starEach xs env)) []) Q E oI) E aW) E s):
  wpAny (model prog w) A (eval (.Call (.Attribute o n ap) xs [] pos) env) Q E s:=by
 have XJ:methodCallForm (xs.length+0) (backTo pos (starEach xs env)) []=true:=by
  unfold methodCallForm
  rw[HX hx]
  simp;exact ai [_] (Pl X0 (Nm 1)) (Nm 30) 1 (Pl X0 (Nm 1)) (Nm 20) rfl hn
 refine MethodCall_ (pl:=(do return (←importBound o env).getD true)) (h _) ?_
 show(do
  let ov←attributeBase o n env (eval o env)
  standAt ap.atName
  methodCall o n ap pos env ov (xs.length+0) (backTo pos (starEach xs env)) (backToKw pos []))=_
 rw[tT hb]
 unfold methodCall
 have e1:backToKw pos []=[]:=rfl
 rw[e1,XJ]
 unfold methodCallPos calleeOf
 simp only[hl,Bool.not_true,Bool.false_or,if_true,ite_true]
 rfl
set_option tactic.hygienic true in
theorem BM (h : mV e = true) (t : Sem Value) : isTrue e env t = (do let v ← t; standAt e.pos; holding [v] (truthy v)) := by
  cases e <;> try rfl
  all_goals first | (exact kK h; done) | skip
  all_goals (rename_i op _ _; cases op <;> first | rfl | cases h)
theorem jw(h:fz e=true):behindInMarks op e=false:=by
 cases e<;>first|rfl|cases h
theorem AX(h:fz e=true)(x:Value):foldedSetIterable e env x=pure x:=by
 cases e<;>first|rfl|cases h
theorem zc(h:sv e=true):swapsWith e t l env=pure false:=by
 cases e<;>first|rfl|cases h
end
end
structure KN (B:Base):Prop where
 gs:∀s y,CA s=some y->∃t,B.mg y=some (.str (jn s) t)
 gf:∀f y,SA f=some y->B.mg y=some (.ref (B.fa f))
 gc:∀c,B.mg (Ph c)=some (.ref (B.ca c))
 gb:∀y∈(["len","list","tuple","any","max","int","dict","range","zip","enumerate"]:List Str),B.mg y=none
 od:∃a m,B.mg ("OPERANDS":Str)=some (.ref a)/\B.h₀.MapOf (strKind B.prog B.w) a m/\∀y l,fY y=some l->∃x,m (jn y)=some x/\RV bH B.h₀ (.tup l) x
noncomputable def PB(B:Base)(ro:Bool)(H:Mine.H)(s:Shared)(Q:Bool->Mine.H->Prop):Bool->Shared->Prop:=
 λ b s'=>∃H',Rel B H' s'.heap/\Step B.Z bH ro H s H' s'/\Q b H'
noncomputable def PL(B:Base)(ro:Bool)(H:Mine.H)(s:Shared)(Q:List V->Mine.H->Prop):List Value->Shared->Prop:=
 λ ys s'=>∃l H',cx B.Z s'.heap l ys/\Rel B H' s'.heap/\Step B.Z bH ro H s H' s'/\Q l H'
noncomputable abbrev Jo{α:Type}:α->Shared->Prop:=λ u0 u0=>False
section
variable (B : Base) (n : Nat) (C : CS) (sc : Scope) (ρ : fS) (ro : Bool)
noncomputable def SE(e:Ex)(x:Expr):Prop:=∀(A:Around) (H:Mine.H) (s:Shared) (env:Env) (fr:Mine.Fr) (Q:V->Mine.H->Prop),j6 n A->env.scope=sc->eD B H s.heap env ρ fr->Rel B H s.heap->wE C e fr Q H->
 wpAny (model B.prog B.w) A (eval x env) (PV B bH ro H s Q) dq s
noncomputable def ST(e:Ex)(x:Expr):Prop:=∀(A:Around) (H:Mine.H) (s:Shared) (env:Env) (fr:Mine.Fr) (Q:Bool->Mine.H->Prop),j6 n A->env.scope=sc->eD B H s.heap env ρ fr->Rel B H s.heap->wE C e fr (λ v h=>gJ v Q h) H->
 wpAny (model B.prog B.w) A (isTrue x env (eval x env)) (PB B ro H s Q) dq s
noncomputable def CT(es:Es)(xs:List Expr):Prop:=∀(A:Around) (H:Mine.H) (s:Shared) (env:Env) (fr:Mine.Fr) (pos:Pos) (Q:List V->Mine.H->Prop),j6 n A->env.scope=sc->eD B H s.heap env ρ fr->Rel B H s.heap->IT C es fr Q H->
 wpAny (model B.prog B.w) A (spliced (backTo pos (starEach xs env))) (PL B ro H s Q) dq s
end
structure Tw (n:Nat) (A:Around):Prop where
 hh:A.handled=none
 u:A.units+40*n+90<cLine
 d:A.depth+4*n+18<recursionLimit
theorem j6.Wd(x:j6 n A):Tw n A:=⟨x.hh,by have:=x.u;exact ai [_,_,_] (Pl (Pl (Pl X0 (Ml 40 X1)) (Nm 90)) (Nm 1)) X2 1 (Pl (Pl (Pl X0 (Ml 40 X1)) (Nm 100)) (Nm 1)) X2 rfl this,by have:=x.d;exact ai [_,_,_] (Pl (Pl (Pl X0 (Ml 4 X1)) (Nm 18)) (Nm 1)) X2 1 (Pl (Pl (Pl X0 (Ml 4 X1)) (Nm 20)) (Nm 1)) X2 rfl this⟩
noncomputable def gL(B:Base)(n:Nat)(C:CS):Prop:=∀{A:Around} {H:Mine.H} {s:Shared} {Q:V->Mine.H->Prop} {f:Fn} {l:List V} {xs:List Value} {ro:Bool} {R:Result->Shared->Prop},Tw n A->Rel B H s.heap->cx B.Z s.heap l xs->C f l Q H->(ro=true->f=.cv)->
 (∀y s',PV B bH ro H s Q y s'->R (.ok (.ret y)) s')->codeAny (model B.prog B.w) A (.call (.ref (B.fa f)) ⟨xs,[]⟩) R s
section
variable {B : Base} {n : Nat} {C : CS} {sc : Scope} {ρ : fS} {ro : Bool} {A : Around} {H H' : Mine.H} {s s' : Shared} {env : Env} {fr : Mine.Fr} {Q : V -> Mine.H -> Prop}
theorem Step.both{F:Nat->Prop}(R:Rel B H s.heap)(x:Step B.Z F ro H s H' s')(y:Step B.Z F ro H' s' nR oB):Step B.Z F ro H s nR oB:=by
 have:=x.trans R y
 rwa [Bool.and_self] at this
theorem eD.go(r:eD B H s.heap env ρ fr)(S:Step B.Z bH ro H s H' s'):eD B H' s'.heap env ρ fr:=r.step S λ u0 u0=>id
theorem bM{W:Value->Shared->Prop}{Q₁:V->Mine.H->Prop}(R:Rel B H s.heap)
  (h:wpAny (model B.prog B.w) A m (PV B bH ro H s Q₁) dq s)
  (k:∀v y H' s',RV B.Z s'.heap v y->Rel B H' s'.heap->Step B.Z bH ro H s H' s'->Q₁ v H'->W y s'):wpAny (model B.prog B.w) A m W dq s:=
 cW h (λ y s' hP=>by refine lk hP λ v H' r R' S q=>?_;exact k v y H' s' r R' S q) λ u0 u0 x=>x
theorem oU{W:List Value->Shared->Prop}{Q₁:List V->Mine.H->Prop}(R:Rel B H s.heap)
  (h:wpAny (model B.prog B.w) A m (PL B ro H s Q₁) dq s)
  (k:∀v y H' s',cx B.Z s'.heap v y->Rel B H' s'.heap->Step B.Z bH ro H s H' s'->Q₁ v H'->W y s'):wpAny (model B.prog B.w) A m W dq s:=
 cW h (λ y s' hP=>by refine lk hP λ v H' r R' S q=>?_;exact k v y H' s' r R' S q) λ u0 u0 x=>x
theorem vy{W:Bool->Shared->Prop}{Q₁:Bool->Mine.H->Prop}(R:Rel B H s.heap)
  (h:wpAny (model B.prog B.w) A m (PB B ro H s Q₁) dq s)
  (k:∀b H' s',Rel B H' s'.heap->Step B.Z bH ro H s H' s'->Q₁ b H'->W b s'):wpAny (model B.prog B.w) A m W dq s:=
 cW h (λ y s' hP=>by refine ik hP λ H' R' S q=>?_;exact k y H' s' R' S q) λ u0 u0 x=>x
theorem fA(R:Rel B H s.heap)(S:Step B.Z bH ro H s H' s')(h:wpAny (model B.prog B.w) A m (PV B bH ro H' s' Q) dq s'):wpAny (model B.prog B.w) A m (PV B bH ro H s Q) dq s':=
 cW h (λ y oB hP=>by refine lk hP λ v nR r R' S' q=>?_;exact⟨v,nR,r,R',S.both R S',q⟩) λ u0 u0 x=>x
theorem AY{Q:Bool->Mine.H->Prop}(R:Rel B H s.heap)(S:Step B.Z bH ro H s H' s')(h:wpAny (model B.prog B.w) A m (PB B ro H' s' Q) dq s'):wpAny (model B.prog B.w) A m (PB B ro H s Q) dq s':=
 cW h (λ y oB hP=>by refine ik hP λ nR R' S' q=>?_;exact⟨nR,R',S.both R S',q⟩) λ u0 u0 x=>x
theorem lX(R:Rel B H s.heap)(S:Step B.Z bH ro H s H' s'):PV B bH ro H' s' Q y oB->PV B bH ro H s Q y oB:=
 λ hP=>by refine lk hP λ v nR r R' S' q=>?_;exact⟨v,nR,r,R',S.both R S',q⟩
theorem HY{Q:Bool->Mine.H->Prop}(R:Rel B H s.heap)(S:Step B.Z bH ro H s H' s'):PB B ro H' s' Q y oB->PB B ro H s Q y oB:=
 λ hP=>by refine ik hP λ nR R' S' q=>?_;exact⟨nR,R',S.both R S',q⟩
theorem HZ{Pb:Bool->Mine.H->Prop}(h:PV B bH ro H s (QB Pb) y s')(hq:∀b h,Pb b h->Q (.bool b) h):PV B bH ro H s Q y s':=
 by obtain⟨v,H',r,R',S,b,e,q⟩:=h;exact⟨v,H',r,R',S,e ▸ hq b H' q⟩
theorem vS(hs:env.scope=sc)(h:cg sc y=true):env.kindOf y=some .globalImplicit/\(y==("__debug__":Str))=false:=by
 unfold cg at h
 rw[Bool.and_eq_true] at h
 refine⟨?_,?_⟩
 ·have:sc.names.lookup y=some .globalImplicit:=eq_of_beq h.1
  unfold Env.kindOf;rw[hs];exact this
 ·have h2:=h.2
  cases e:(y==("__debug__":Str)) with
  |false=>rfl
  |true=>rw[bne,e] at h2;exact absurd h2 (by decide)
theorem Jp{W E:Value->Shared->Prop}(hs:env.scope=sc)(hn:cg sc y=true)(r:eD B H s.heap env ρ fr)(R:Rel B H s.heap)(hv:B.mg y=some v)(h:W v s):
  wpAny (model B.prog B.w) A (eval (.Name y np) env) W E s:=by
 refine bV (vS hs hn) λ k d=>?_
 exact wpAny_Name (PySem.W.ks_loadName_global r.fk k (PySem.Calls.loadGlobal_global (mg:=B.mg) (r.gl ▸ B.g.at' λ o e=>R.base _ o e) hv h)) d
theorem Gg{W E:Value->Shared->Prop}(hs:env.scope=sc)(hn:cg sc y=true)(r:eD B H s.heap env ρ fr)(R:Rel B H s.heap)(hm:B.mg y=none)(jN:y≠"__name__")(hv:bootBuiltins y=some v)(h:W v s):
  wpAny (model B.prog B.w) A (eval (.Name y np) env) W E s:=by
 refine bV (vS hs hn) λ k d=>?_
 exact wpAny_Name (PySem.W.ks_loadName_global r.fk k (PySem.Calls.loadGlobal_builtin (mg:=B.mg) (mb:=B.mb) (r.gl ▸ B.g.at' λ o e=>R.base _ o e) hm (r.bl ▸ B.b.at' λ o e=>R.base _ o e) ((B.bt y jN).trans hv) h)) d
theorem K4(h:Fk x Q H):∃v,x=some (some v)/\Q v H:=by
 unfold Fk at h
 cases x with
 |none=>exact h.elim
 |some x=>cases x with
  |none=>exact h.elim
  |some v=>exact⟨v,rfl,h⟩
theorem Rm(h:d5 sc ρ y i=true):SE B n C sc ρ ro (.var i) (.Name y p):=by
 intro A H s env fr Q oa hs r R hw
 unfold d5 at h
 rw[Bool.and_eq_true,Bool.and_eq_true] at h
 refine bV h λ ak h3=>?_;refine bV ak λ h1 h2=>?_
 have h1:ρ.lookup y=some i:=eq_of_beq h1
 have hk:env.kindOf y=some .local\/env.kindOf y=some .cell:=by
  unfold Env.kindOf;rw[hs]
  rcases sG h2 with h2|h2
  ·exact .inl (eq_of_beq h2)
  ·exact .inr (eq_of_beq h2)
 have hd:(y==("__debug__":Str))=false:=by
  cases e:(y==("__debug__":Str)) with
  |false=>rfl
  |true=>rw[bne,e] at h3;exact absurd h3 (by decide)
 have hw:Fk fr[i]? Q H:=hw
 refine aG (K4 hw) λ v hv hw=>?_
 exact r.load h1 hk hd hv λ y ry=>gX R ry hw
theorem N9(kn:KN B)(h:cg sc y=true)(hg:CA w=some y):SE B n C sc ρ ro (.qh w) (.Name y p):=by
 intro A H s env fr Q oa hs r R hw
 refine aK (kn.gs w y hg) λ t e=>?_
 exact Jp hs h r R e (gX R .str hw)
theorem Oa(kf:KF B)(hb:eJ v=true)(ih:SE B n C sc ρ ro e v):SE B n C sc ρ ro (.attr e a) (.Attribute v (gz a) p):=by
 intro A H s env fr Q oa hs r R hw
 refine N8 hb (bM R (ih _ _ _ _ _ _ oa hs r R hw) λ v y H' s' rv R' S q=>fA R S ?_)
 have q:yh a v Q H':=q;unfold yh at q
 refine E7 q λ x c fs w ak bA=>?_;obtain rfl:=ak;refine fy bA λ e1 e2 q=>?_
 obtain rfl:=eI rv
 exact EC kf R' e1 e2 q
theorem Rn(hk:jv k=true)(ih:SE B n C sc ρ ro e v)(lA:SE B n C sc ρ ro i k):SE B n C sc ρ ro (.sub e i) (.Subscript v k p):=by
 intro A H s env fr Q oa hs r R hw
 refine Subscript_ (bM R (ih _ _ _ _ _ _ oa hs r R hw) λ v y H' s' rv R' S q=>bM R' (lA _ _ _ _ _ _ oa hs (r.go S) R' q) λ v2 y2 H2 s2 vr R2 S2 q2=>fA R (S.both R S2) ?_)
 exact HK oa hk (rv.grow S2.grow) vr R2 q2
end
section
variable {B : Base} {n : Nat} {C : CS} {sc : Scope} {ρ : fS} {ro : Bool}
theorem Ob:SE B n C sc ρ ro .none (.Constant .none k p):=λ A H s env fr Q oa hs r R hw=>wpAny_Constant_none (gX R .none hw)
theorem Oc:SE B n C sc ρ ro (.bool b) (.Constant (.bool b) k p):=λ A H s env fr Q oa hs r R hw=>wpAny_Constant_bool (gX R .bool hw)
theorem Ro:SE B n C sc ρ ro (.int i) (.Constant (.int i) k p):=λ A H s env fr Q oa hs r R hw=>wpAny_Constant_int (eL R hw)
theorem Rp:SE B n C sc ρ ro (.int (-i)) (.UnaryOp .USub (.Constant (.int i) k p) p'):=λ A H s env fr Q oa hs r R hw=>UnaryOp_ (wpAny_Constant_int (PySem.P.neg_int (eL R hw)))
theorem Rq:SE B n C sc ρ ro (.str x) (.Constant (.str (jn x)) k p):=λ A H s env fr Q oa hs r R hw=>wpAny_Constant_str (jS R .str hw)
theorem Rr(hk:Cs k sl=true)(ih:SE B n C sc ρ ro e v):SE B n C sc ρ ro (.cut e k) (.Subscript v sl p):=λ A H s env fr Q oa hs r R hw=>
 Subscript_ (bM R (ih _ _ _ _ _ _ oa hs r R hw) λ v y H' s' rv R' S q=>cW (HM oa hk rv R' q) (λ i oI h=>cW h (λ y oB=>lX R S) λ u0 u0 x=>x) λ u0 u0 x=>x)
theorem Rs(ih:SE B n C sc ρ ro l a)(lA:SE B n C sc ρ ro e b):SE B n C sc ρ ro (.bin o l e) (.BinOp a (Jm o) b p):=λ A H s env fr Q oa hs r R hw=>
 wpAny_BinOp (bM R (ih _ _ _ _ _ _ oa hs r R hw) λ v y H' s' rv R' S q=>bM R' (lA _ _ _ _ _ _ oa hs (r.go S) R' q) λ v2 y2 H2 s2 vr R2 S2 q2=>fA R (S.both R S2) (HG (rv.grow S2.grow) vr R2 q2))
theorem Rt(hn:fz b=true)(ih:SE B n C sc ρ ro l a)(lA:SE B n C sc ρ ro e b):SE B n C sc ρ ro (.cmp o l e) (.Compare a [Cq o] [b] p):=λ A H s env fr Q oa hs r R hw=>
 wpAny_Compare1 (bM R (ih _ _ _ _ _ _ oa hs r R hw) λ v y H' s' rv R' S q=>bM R' (lA _ _ _ _ _ _ oa hs (r.go S) R' q) λ v2 y2 H2 s2 vr R2 S2 q2=>fA R (S.both R S2)
  (cW (y5 oa (rv.grow S2.grow) vr R2 q2) (λ y s' h=>HZ h λ b h q=>q) λ u0 u0 x=>x)) (jw hn)
theorem Od(hp:mV x=true)(ih:SE B n C sc ρ ro e x):ST B n C sc ρ ro e x:=λ A H s env fr Q oa hs r R hw=>
 isTrue_plain (bM R (ih _ _ _ _ _ _ oa hs r R hw) λ v y H' s' rv R' S q=>by
  unfold gJ at q
  cases v with
  |bool b=>obtain rfl:=lH rv;exact wpAny_truthy_bool ⟨H',R',S,q⟩
  |_=>exact q.elim) (BM hp _)
theorem H5{H:Mine.H}{Pb:Bool->Mine.H->Prop}(h:PV B bH ro H s (QB Pb) y s'):wpAny (model B.prog B.w) A (truthy y) (PB B ro H s Pb) Jo s':=by
 obtain⟨v,H',rv,R',S,b,rfl,q⟩:=h
 obtain rfl:=lH rv
 exact wpAny_truthy_bool ⟨H',R',S,q⟩
theorem Ru(hn:fz b=true)(ih:SE B n C sc ρ ro l a)(lA:SE B n C sc ρ ro e b):ST B n C sc ρ ro (.cmp o l e) (.Compare a [Cq o] [b] p):=λ A H s env fr Q oa hs r R hw=>
 wpAny_isTrue_Compare1 (bM R (ih _ _ _ _ _ _ oa hs r R hw) λ v y H' s' rv R' S q=>bM R' (lA _ _ _ _ _ _ oa hs (r.go S) R' q) λ v2 y2 H2 s2 vr R2 S2 q2=>
  cW (y5 (ro:=ro) oa (rv.grow S2.grow) vr R2 q2) (λ y s' h=>cW (H5 h) (λ b oB=>HY R (S.both R S2)) λ u0 u0 x=>x) λ u0 u0 x=>x) (jw hn)
theorem Rv(ih:ST B n C sc ρ ro e x):ST B n C sc ρ ro (.not e) (.UnaryOp .Not x p):=λ A H s env fr Q oa hs r R hw=>
 isTrue_not (vy R (ih (Q:=λ b h=>Q (!b) h) _ _ _ _ _ oa hs r R hw) λ b H' s' R' S q=>⟨H',R',S,q⟩)
end
theorem EM{prog:Program}{E Q:Value->Shared->Prop}(ne:Bool)(ha:s.heap.IsList a xs)(hb:s.heap.IsList b #[])(hu:A.units<cLine)(h:Q (.bool (Ac ne (decide (xs.size=0)))) s):
  wpAny (model prog w) A (compareOp (Ay ne) (.ref a) (.ref b)) Q E s:=by
 by_cases z:xs.size=0
 ·rw[dE z] at h
  have e:(List.range xs.size).all (λ u0=>true)=true:=by rw[z];rfl
  cases ne with
  |true=>exact SeqAt.RcNeAt.lists (e:=λ u0=>true) ha hb z hu (λ j h1=>by exact(Nat.not_succ_le_zero 0 (aS [_,_] (Nm 1) (Nm 0) 1 X0 (Nm 0) 1 (Pl X1 (Nm 1)) X0 rfl (bw z) h1)).elim) prog w E Q (by rw[e];exact h)
  |false=>exact SeqAt.eq_listAt (e:=λ u0=>true) ha hb z hu (λ j h1=>by exact(Nat.not_succ_le_zero 0 (aS [_,_] (Nm 1) (Nm 0) 1 X0 (Nm 0) 1 (Pl X1 (Nm 1)) X0 rfl (bw z) h1)).elim) (by rw[e];exact h)
 ·rw[eY z] at h
  have e:(xs.size !=(#[]:Array Value).size)=true:=by simpa using z
  cases ne with
  |true=>exact SeqAt.RcNeAt.lists_lengths ha hb e hu prog w E Q h
  |false=>exact SeqAt.eq_list_lengthsAt ha hb e hu h
section
variable {B : Base} {n : Nat} {C : CS} {sc : Scope} {ρ : fS} {ro : Bool}
theorem H6(ih:SE B n C sc ρ ro e a):ST B n C sc ρ ro (.fG ne e) (.Compare a [Ay ne] [.List [] q] p):=λ A H s env fr Q oa hs r R hw=>
 wpAny_isTrue_Compare1 (bM R (ih _ _ _ _ _ _ oa hs r R hw) λ v y H' s' rv R' S h=>by
  unfold Pt sf at h
  obtain⟨x,l,rfl,hl,h⟩:=h
  obtain rfl:=eI rv
  refine lk (R'.bS hl) λ xs m e1 z r1 hsz=>?_
  refine bV (R'.push (tk:=s'.toks) {cls:=.type "list",data:=.seq #[]} ro) λ R2 S2=>?_
  refine List_ (spliced_none (wpAny_newList ?_))
  refine EM ne ⟨_,fR _ e1,rfl,m,rfl⟩ ⟨_,fW _ rfl,rfl,0,rfl⟩ (by have:=oa.u;exact ai [_,_,_] (Pl X0 (Nm 1)) X1 1 (Pl (Pl (Pl X0 (Ml 40 X2)) (Nm 100)) (Nm 1)) X1 rfl this) (wpAny_truthy_bool ⟨H',R2,S.both R S2,?_⟩)
  have ei:decide (xs.size=0)=l.isEmpty:=by rw[hsz];cases l<;>rfl
  rw[ei];exact h) (jw rfl)
theorem H7(ih:SE B n C sc ρ ro e a):ST B n C sc ρ ro (.ju ne e) (.Compare a [Ay ne] [.Dict [] [] q] p):=λ A H s env fr Q oa hs r R hw=>
 wpAny_isTrue_Compare1 (bM R (ih _ _ _ _ _ _ oa hs r R hw) λ v y H' s' rv R' S h=>by
  unfold Pu sn at h
  obtain⟨x,es,rfl,hd,h⟩:=h
  obtain rfl:=eI rv
  refine bV (R'.push (tk:=s'.toks) {cls:=.type "dict",data:=.dict #[]} ro) λ R2 S2=>?_
  refine aG (R2.ee hd) λ bY hk rk=>?_
  have ma:(s'.heap.push {cls:=.type "dict",data:=.dict #[]}).get? s'.heap.objs.size=some (iN #[] 0):=fW _ rfl
  have db:(s'.heap.push {cls:=.type "dict",data:=.dict #[]}).DictOf (intKind B.prog B.w) s'.heap.objs.size []:=⟨_,#[],0,ma,⟨rfl,rfl,rfl⟩,rfl,λ u0 he=>(by simp at he),.nil,by simp⟩
  have ls:=rk.length
  have hu:A.units<cLine:=by have:=oa.u;exact ai [_,_,_] (Pl X0 (Nm 1)) X1 1 (Pl (Pl (Pl X0 (Ml 40 X2)) (Nm 100)) (Nm 1)) X1 rfl this
  have aY:∀b,b=decide (bY.length=0)->wpAny (model B.prog B.w) A (truthy (.bool (Ac ne b))) (PB B ro H s Q) Jo {s' with heap:=s'.heap.push {cls:=.type "dict",data:=.dict #[]}}:=λ b e=>by
   refine wpAny_truthy_bool ⟨H',R2,S.both R S2,?_⟩
   have ei:decide (bY.length=0)=es.isEmpty:=by rw[ls];cases es<;>rfl
   rw[e,ei];exact h
  have bz:(s'.heap.objs.size==sysModules)=false:=by
   have h3:=(R'.rI (bE _)).2
   exact beq_eq_false_iff_ne.mpr λ q=>by rw[q] at h3;exact absurd h3 (by decide)
  refine wpAny_Dict_empty ?_
  cases ne with
  |true=>exact PySem.W.keq_ne (R2.gh hd) bz hk db hu (λ z=>by cases bY with|nil=>exact .nil|cons=>injection z) (by rw[Bool.and_true];exact aY _ (by simp[BEq.beq]))
  |false=>exact PySem.W.keq_eq (R2.gh hd) bz hk db hu (λ z=>by cases bY with|nil=>exact .nil|cons=>injection z) (by rw[Bool.and_true];exact aY _ (by simp[BEq.beq]))) (jw rfl)
end
mutual
noncomputable def D.py:D->PyData
 | .none=> .none
 | .bool b=> .bool b
 | .int i=> .int i
 | .str s=> .str (jn s)
 | .tup l=> .tuple (D.MX l)
 | .list l=> .list (D.MX l)
noncomputable def D.MX:List D->List PyData
 |[]=>[]
 |d::ds=>d.py::D.MX ds
end
theorem Rw(s:Sy):PyData.strOk (jn s)=true:=rF (show Co.all (λ s=>PyData.strOk (jn s))=true by decide+kernel) s (wF s)
mutual
theorem D.lay:∀d:D,d.py.canLay0=true
 | .none=>rfl
 | .bool _=>rfl
 | .int _=>rfl
 | .str s=>by show PyData.canLay0 (.str (jn s))=true;rw[PyData.canLay0];exact Rw s
 | .tup l=>D.Nz l
 | .list l=>D.Nz l
theorem D.Nz:∀l:List D,PyData.canLayAll0 (D.MX l)=true
 |[]=>rfl
 |d::ds=>by unfold D.MX PyData.canLayAll0;rw[D.lay d,D.Nz ds];rfl
end
mutual
theorem D.dep:∀d:D,d.py.depth<=d.dp
 | .none=>bE 0
 | .bool _=>bE 0
 | .int _=>bE 0
 | .str _=>bE 0
 | .tup l=>jj (D.NA l)
 | .list l=>jj (D.NA l)
theorem D.NA:∀l:List D,PyData.depthAll (D.MX l)<=D.IL l
 |[]=>bE 0
 |d::ds=>Nat.max_le.mpr ⟨cV (D.dep d) (Nat.le_max_left ..),cV (D.NA ds) (Nat.le_max_right ..)⟩
end
section
variable {B : Base} {n : Nat} {C : CS} {sc : Scope} {ρ : fS} {ro : Bool}
mutual
theorem tH {H:Mine.H} {h:Heap} (R:Rel B H h):∀(d:D) {v:V} {x:Value},E8 H d v->RV B.Z h v x->∃as,Reads h x d.py as
 | .none,v,x,e,r=>by cases e;obtain rfl:=eX r;exact⟨_,.none⟩
 | .bool b,v,x,e,r=>by cases e;obtain rfl:=lH r;exact⟨_,.bool b⟩
 | .int i,v,x,e,r=>by cases e;obtain⟨_,rfl⟩:=r;exact⟨_,.int i _⟩
 | .str s,v,x,e,r=>by cases e;obtain⟨_,rfl⟩:=r;exact⟨_,.str _ _⟩
 | .tup ds,v,x,e,r=>by
  obtain⟨l,rfl,e⟩:=e
  refine im (ie r) λ u0 u0 u0 ak bA=>?_;obtain rfl:=ak;refine gM bA λ e1 u0 l1 u0=>?_
  obtain⟨as,ra⟩:=qJ R ds e l1
  exact⟨_,.tuple e1 rfl rfl ra⟩
 | .list ds,v,x,e,r=>by
  refine fh e λ a l ak bA=>?_;obtain rfl:=ak;refine bV bA λ hl e=>?_
  obtain rfl:=r.1
  refine lk (R.bS hl) λ xs m e1 u0 l1 u0=>?_
  refine aK (qJ R ds e l1) λ as ra=>?_
  exact⟨_,.list e1 rfl rfl ra⟩
theorem qJ {H:Mine.H} {h:Heap} (R:Rel B H h):∀(ds:List D) {l:List V} {xs:List Value},ny H ds l->cx B.Z h l xs->∃as,ReadsAll h xs (D.MX ds) as
 |[],l,xs,e,r=>by cases e;obtain rfl:=r;exact⟨_,.nil⟩
 |d::ds,l,xs,e,r=>by
  refine fh e λ v r' ak bA=>?_;obtain rfl:=ak;refine bV bA λ e1 e2=>?_
  refine fh r λ u0 u0 ak bA=>?_;obtain rfl:=ak;refine bV bA λ a b=>?_
  refine aK (tH R d e1 a) λ as x=>?_
  refine aK (qJ R ds e2 b) λ bs y=>?_
  exact⟨_,.cons x y⟩
end
theorem H8(hn:fz b=true)(ih:SE B n C sc ρ ro l a)(lA:SE B n C sc ρ ro e b):ST B n C sc ρ ro (.nU l e) (.Compare a [.NotEq] [b] p):=λ A H s env fr Q oa hs r R hw=>
 wpAny_isTrue_Compare1 (bM R (ih _ _ _ _ _ _ oa hs r R hw) λ v y H' s' rv R' S q=>bM R' (lA _ _ _ _ _ _ oa hs (r.go S) R' q) λ v2 y2 H2 s2 vr R2 S2 q2=>by
  unfold Gr B3 at q2
  refine bV q2 λ ak q2=>?_;refine ik ak λ d hd i1 i2=>?_
  refine aK (tH R2 d i1 (rv.grow S2.grow)) λ as ra=>?_
  refine aK (tH R2 d i2 vr) λ bs rb=>?_
  have hu:=oa.u
  have dd:=d.dep
  refine SeqAt.compareNe_reads ra rb d.lay d.lay (by rw[Nat.min_self];exact fH [_,_,_,_,_] (Pl (Pl X0 X1) (Nm 1)) X2 1 X3 (Nm 20) 1 (Pl (Pl (Pl X0 (Ml 40 X4)) (Nm 100)) (Nm 1)) X2 1 X1 X3 rfl hd hu dd) ?_
  rw[SeqAt.eqv_refl _ d.lay]
  exact wpAny_truthy_bool ⟨H2,R2,S.both R S2,q2⟩) (jw hn)
noncomputable def SG(B:Base)(n:Nat)(C:CS)(sc:Scope)(ρ:fS)(ro:Bool):Es->List Expr->Prop
 | .nil,xs=>xs=[]
 | .cons e es,xs=>∃x ys,xs=x::ys/\ST B n C sc ρ ro e x/\SG B n C sc ρ ro es ys
theorem Mz:∀{es:Es} {xs:List Expr},SG B n C sc ρ ro es xs->∀{A:Around} {H:Mine.H} {s:Shared} {env:Env} {fr:Mine.Fr} {Q:Bool->Mine.H->Prop} {sY:Sem Value},j6 n A->env.scope=sc->eD B H s.heap env ρ fr->Rel B H s.heap->kJ C es fr Q H->
  wpAny (model B.prog B.w) A (isTrue (.BoolOp .And xs p) env sY) (PB B ro H s Q) Jo s
 | .nil,_,e,A,H,s,env,fr,Q,sY,oa,hs,r,R,hw=>by cases e;exact isTrue_and_nil ⟨H,R,.refl ro H s,hw⟩
 | .cons e es,_,⟨x,ys,ex,ih,lA⟩,A,H,s,env,fr,Q,sY,oa,hs,r,R,hw=>by
  cases ex
  refine isTrue_and (vy R (ih _ _ _ _ _ _ oa hs r R hw) λ b H' s' R' S q=>?_)
  cases b with
  |true=>exact AY R S (Mz lA oa hs (r.go S) R' q)
  |false=>exact⟨H',R',S,q⟩
theorem Qd:∀{es:Es} {xs:List Expr},SG B n C sc ρ ro es xs->∀{A:Around} {H:Mine.H} {s:Shared} {env:Env} {fr:Mine.Fr} {Q:Bool->Mine.H->Prop} {sY:Sem Value},j6 n A->env.scope=sc->eD B H s.heap env ρ fr->Rel B H s.heap->SQ C es fr Q H->
  wpAny (model B.prog B.w) A (isTrue (.BoolOp .Or xs p) env sY) (PB B ro H s Q) Jo s
 | .nil,_,e,A,H,s,env,fr,Q,sY,oa,hs,r,R,hw=>by cases e;exact isTrue_or_nil ⟨H,R,.refl ro H s,hw⟩
 | .cons e es,_,⟨x,ys,ex,ih,lA⟩,A,H,s,env,fr,Q,sY,oa,hs,r,R,hw=>by
  cases ex
  refine isTrue_or (vy R (ih _ _ _ _ _ _ oa hs r R hw) λ b H' s' R' S q=>?_)
  cases b with
  |true=>exact⟨H',R',S,q⟩
  |false=>exact AY R S (Qd lA oa hs (r.go S) R' q)
end
noncomputable def rK(P:Ex->Expr->Prop):Es->List Expr->Prop
 | .nil,xs=>xs=[]
 | .cons e es,xs=>∃x ys,xs=x::ys/\P e x/\rK P es ys
section
variable {B : Base} {n : Nat} {C : CS} {sc : Scope} {ρ : fS} {ro : Bool}
theorem Qe:∀{es:Es} {xs:List Expr},rK (SE B n C sc ρ ro) es xs->xs.isEmpty=false->SE B n C sc ρ ro (.or es) (.BoolOp .Or xs p)
 | .nil,_,e,h0=>λ u0 u0 u0 u0 u0 u0 oa hs r R hw=>by cases e;exact IJ h0
 | .cons e .nil,_,⟨x,ys,ex,ih,lA⟩,h0=>λ u0 u0 u0 u0 u0 u0 oa hs r R hw=>by
  subst ex;subst lA
  refine BoolOp_one (bM R (ih _ _ _ _ _ _ oa hs r R hw) λ v y H' s' rv R' S q=>⟨v,H',rv,R',S,?_⟩)
  have q:gJ v _ H':=q;unfold gJ at q
  cases v with
  |bool b=>cases b<;>exact q
  |_=>exact q.elim
 | .cons e (.cons e' es),_,⟨x,ys,ex,ih,lA⟩,h0=>λ u0 u0 u0 u0 u0 u0 oa hs r R hw=>by
  refine nQ lA λ x' XK XM XN Tx=>?_
  subst ex;subst XM
  refine BoolOp_or (bM R (ih _ _ _ _ _ _ oa hs r R hw) λ v y H' s' rv R' S q=>?_)
  have q:gJ v _ H':=q;unfold gJ at q
  cases v with
  |bool b=>
   obtain rfl:=lH rv
   refine wpAny_truthy_bool ?_
   cases b with
   |true=>exact⟨.bool true,H',.bool,R',S,q⟩
   |false=>exact fA R S (Qe (es:=.cons e' es) ⟨x',XK,rfl,XN,Tx⟩ rfl _ _ _ _ _ _ oa hs (r.go S) R' q)
  |_=>exact q.elim
theorem Rx(ih:ST B n C sc ρ ro c a)(Tz:SE B n C sc ρ ro t b)(lA:SE B n C sc ρ ro f d):SE B n C sc ρ ro (.ite c t f) (.IfExp a b d p):=λ A H s env fr Q oa hs r R hw=>
 IfExp_ (vy R (ih _ _ _ _ _ _ oa hs r R hw) λ b H' s' R' S q=>by
  cases b with
  |true=>exact fA R S (Tz _ _ _ _ _ _ oa hs (r.go S) R' q)
  |false=>exact fA R S (lA _ _ _ _ _ _ oa hs (r.go S) R' q))
theorem Ry:CT B n C sc ρ ro .nil []:=λ A H s env fr pos Q oa hs r R hw=>spliced_none ⟨[],H,.nil,R,.refl ro H s,hw⟩
theorem Oe(hn:aN x=true)(ih:SE B n C sc ρ ro e x)(lA:CT B n C sc ρ ro es xs):CT B n C sc ρ ro (.cons e es) (x::xs):=λ A H s env fr pos Q oa hs r R hw=>by
 exact spliced_more (bM R (ih _ _ _ _ _ _ oa hs r R hw) λ v y H' s' rv R' S q=>oU R' (lA _ _ _ _ _ _ _ oa hs (r.go S) R' q) λ l ys H2 s2 rl R2 S2 q2=>⟨v::l,H2,.cons (rv.grow S2.grow) rl,R2,S.both R S2,q2⟩) (dC hn)
theorem Of(ih:CT B n C sc ρ ro es xs):SE B n C sc ρ ro (.list es) (.List xs p):=λ A H s env fr Q oa hs r R hw=>
 List_ (oU R (ih _ _ _ _ _ _ _ oa hs r R hw) λ l ys H' s' rl R' S q=>by
  have q:iL l _ H':=q;unfold iL at q
  have hz:sizeLine=2^24:=rfl
  have hL:aZ=1000000:=rfl
  have:=rl.length
  exact wpAny_newList (lX R S (sA (t:=s'.toks) R' (Nat.le_of_lt q.1) (by simpa using rl) q.2)))
theorem Rz(ih:CT B n C sc ρ ro es xs):SE B n C sc ρ ro (.tup es) (.Tuple xs k p):=λ A H s env fr Q oa hs r R hw=>
 Tuple_ (oU R (ih _ _ _ _ _ _ _ oa hs r R hw) λ l ys H' s' rl R' S q=>by
  have q:Fj l _ H':=q;unfold Fj at q
  have hz:sizeLine=2^24:=rfl
  have hL:aZ=1000000:=rfl
  have:=rl.length
  exact wpAny_newTuple (lX R S (wH (t:=s'.toks) R' (Nat.le_of_lt q.1) (by simpa using rl) q.2)))
theorem K5:SE B n C sc ρ ro (.lB t) (.Dict [] [] p):=λ A H s env fr Q oa hs r R hw=>
 wpAny_Dict_empty (by
  cases t with
  |true=>exact yW (t:=s.toks) R (.inr rfl) hw
  |false=>exact yW (t:=s.toks) R (.inl rfl) hw)
end
section
variable {B : Base} {n : Nat} {C : CS} {sc : Scope} {ρ : fS} {ro : Bool}
theorem K6:SE B n C sc ρ ro (.q0 (.int i) (.bool b)) (.Dict [some (.Constant (.int i) k p)] [.Constant (.bool b) k' p'] q):=λ A H s env fr Q oa hs r R hw=>by
 have ma:(s.heap.push {cls:=.type "dict",data:=.dict #[]}).get? s.heap.objs.size=some (iN #[] 0):=fW _ rfl
 refine wpAny_Dict_walk (knd:=intKind B.prog B.w) rfl rfl (λ h=>nomatch h) (eP rfl) (pairTrees_cons_walk (wpAny_Constant_int (wpAny_Constant_bool (pairTrees_nil_walk ⟨[(i,.bool b)],?_,⟨_,#[],0,ma,⟨rfl,rfl,rfl⟩,rfl,λ u0 he=>(by simp at he),.nil,by simp⟩,λ h' hk XO=>?_⟩))))
 ·exact⟨by simp[intKind,Value.isInt],rfl,trivial⟩
 ·have keep:∀c o,s.heap.get? c=some o->h'.get? c=some o:=λ c o e=>(XO.2 c (Nat.ne_of_lt (iI e))).trans (fR _ e)
  obtain⟨hn,R',S⟩:=R.alloc (tk:=s.toks+1+1) (O:=.ao [(i,.bool b)]) keep (R.rI (bE _)) (.ao hk (.cons .bool .nil)) (λ d hd=>by
   refine wu hk λ o es ep e1 c1 u0=>?_
   unfold aH at hd
   rw[e1] at hd
   have:=c1.2.1
   cases hd.symm.trans this)
  exact⟨.ref _,_,.ref (by refine im hk λ o u0 u0 e u0=>?_;exact⟨o,e⟩) (R.ql (R.rI (bE _)).1),R',S.weaken (λ u0=>rfl),fg hw _ hn⟩
theorem K7(hn:fz c=true)(ih:SE B n C sc ρ ro l a)(lA:SE B n C sc ρ ro m b)(Tx:SE B n C sc ρ ro e c):ST B n C sc ρ ro (.chain l m e) (.Compare a [.LtE,.Lt] [b,c] p):=λ A H s env fr Q oa hs r R hw=>
 isTrue_chain (bM R (ih _ _ _ _ _ _ oa hs r R hw) λ v y H' s' rv R' S q=>test_link (bM R' (lA _ _ _ _ _ _ oa hs (r.go S) R' q) λ v2 y2 H2 s2 vr R2 S2 q2=>by
  have q2:wP v v2 _:=q2;unfold wP at q2
  cases v with
  |int i=>cases v2 with
   |int j=>
    refine aK rv λ u0 ak=>?_;obtain rfl:=ak;refine aK vr λ u0 ak=>?_;obtain rfl:=ak
    refine PySem.P.le_int (wpAny_truthy_bool ?_)
    have TA:=S.both R S2
    by_cases z:i<=j
    ·change DL (decide (i<=j)) _ _ at q2
     rw[dE z] at q2
     rw[dE z,if_pos rfl]
     refine test_last (bM R2 (Tx _ _ _ _ _ _ oa hs (r.go TA) R2 q2) λ v3 y3 H3 s3 OI R3 S3 q3=>?_)
     unfold Ps CV at q3
     cases v3 with
     |int k=>refine aK OI λ u0 ak=>?_;obtain rfl:=ak;exact PySem.P.lt_int (wpAny_truthy_bool ⟨H3,R3,TA.both R S3,q3⟩)
     |_=>exact q3.elim
    ·change DL (decide (i<=j)) _ _ at q2
     rw[eY z] at q2
     rw[eY z,if_neg kX]
     exact⟨H2,R2,TA,q2⟩
   |_=>exact q2.elim
  |_=>exact q2.elim)) (jw (op:=.Lt) hn)
end
noncomputable def Do:List Str:=["len","list","tuple","any","max","int","dict","range","zip","enumerate"]
theorem K8(h:Tv b=some y):bootBuiltins y=some (ya b)/\y≠"__name__"/\y∈Do:=by
 cases b<;>first|(exact dD h;done)|(obtain rfl:=c8 h;exact⟨by rfl,by decide+kernel,by decide+kernel⟩)
section
variable {B : Base} {n : Nat} {C : CS} {sc : Scope} {ρ : fS} {ro : Bool}
theorem RA(kn:KN B)(hy:cg sc y=true)(hb:Tv b=some y)(h2:b≠.dictOf)(hx:xs.all aN=true)(ih:CT B n C sc ρ ro es xs):SE B n C sc ρ ro (.bi b es) (.Call (.Name y np) xs [] p):=λ A H s env fr Q oa hs r R hw=>by
 refine fy (K8 hb) λ e1 e2 e3=>?_
 have aY:wpAny (model B.prog B.w) A (spliced (backTo p (starEach xs env))) (λ vs aW=>wpAny (model B.prog B.w) A (call (ya b) vs) (PV B bH ro H s Q) dq aW) dq s:=
  oU R (ih _ _ _ _ _ _ _ oa hs r R hw) λ l ys H' s' rl R' S q=>fA R S (o8 oa (λ e=>by subst e;exact dD hb) h2 rl R' q)
 refine th (Gg hs hy r R (kn.gb y e3) e2 e1 ?_)
 cases b with
 |len=>exact mX (first:=[]) hx aY
 |any=>exact mX (first:=[]) hx aY
 |max=>exact mX (first:=[]) hx aY
 |listOf=>exact ti hx aY
 |tupleOf=>exact ti hx aY
 |int=>exact ti hx aY
 |dictOf=>exact absurd rfl h2
 |_=>exact dD hb
end
section
variable {B : Base} {n : Nat} {C : CS} {sc : Scope} {ρ : fS} {ro : Bool}
theorem MA{H:Mine.H}(R:Rel B H h)(e:H a=some (.list l)):∃o,h.get? a=some o/\o.cls=.type "list"/\o.dict=none:=
 by refine fh (R.bS e) λ u0 u0 e u0=>?_;exact⟨_,e,rfl,rfl⟩
theorem Gh{H:Mine.H}(R:Rel B H h)(e:H a=some (.ao es)):∃o,h.get? a=some o/\o.cls=.type "dict"/\o.dict=none:=
 by refine aG (R.ee e) λ u0 ak u0=>?_;obtain⟨o,_,_,e,x,_⟩:=ak;exact⟨o,e,x.1,x.2.1⟩
theorem H9{O:Mine.O}(h:yk b O=true):(∃l,O=.list l/\(b=.append\/b=.extend\/b=.uA\/b=.iP))\/(∃es,O=.ao es/\(b=.get\/b=.iP)):=by
 cases O with
 |list l=>refine .inl ⟨l,rfl,?_⟩;cases b<;>first|(exact kK h;done)|(simp;done)
 |ao l=>refine .inr ⟨l,rfl,?_⟩;cases b<;>first|(exact kK h;done)|(simp;done)
 |_=>exact kK h
theorem RB(hb:eJ o=true)(hy:Wc b=some y)(hl:(ap.endLine==p.line)=true)(cT:xs.length<20)(hx:xs.all aN=true)(rD:b=.iP->ro=false)
  (MY:SE B n C sc ρ ro e o)(ih:CT B n C sc ρ ro es xs):SE B n C sc ρ ro (.jt b e es) (.Call (.Attribute o y ap) xs [] p):=λ A H s env fr Q oa hs r R hw=>by
 refine zb hb hl cT hx λ pl=>bM R (MY _ _ _ _ _ _ oa hs r R hw) λ v x H' s' rv R' S q=>?_
 unfold Vt qn at q
 refine fh q λ a O ak bA=>?_;obtain rfl:=ak;refine fy bA λ hO hk q=>?_
 obtain rfl:=eI rv
 have aY:∀f,(∀l ys H2 s2,cx B.Z s2.heap l ys->Rel B H2 s2.heap->CK b (.ref a::l) Q H2->(∀o,s'.heap.get? a=some o->∃o',s2.heap.get? a=some o'/\o'.cls=o.cls)->RV B.Z s2.heap (.ref a) (.ref a)->
   wpAny (model B.prog B.w) A (call (.builtin f) (.ref a::ys)) (PV B bH ro H2 s2 Q) dq s2)->
   wpAny (model B.prog B.w) A (callWith p (.builtin f) [.ref a] (backTo p (starEach xs env)) []) (PV B bH ro H s Q) dq s':=λ f k=>
  mX hx (oU R' (ih _ _ _ _ _ _ _ oa hs (r.go S) R' q) λ l ys H2 s2 rl R2 S2 q2=>fA R (S.both R S2) (k l ys H2 s2 rl R2 q2 (λ o e=>S2.cls a O o hO e) (rv.grow S2.grow)))
 rcases H9 hk with⟨l,rfl,hb⟩|⟨l,rfl,hb⟩
 ·refine ik (MA R' hO) λ ob e1 e2 e3=>?_
  have gm:∀{nm f W E},Slot "list" nm f->typeOf (.builtin f)=pure (.type "method_descriptor")->W (.builtin f,[.ref a]) s'->wpAny (model B.prog B.w) A (getMethod (.ref a) nm pl) W E s':=λ sl ty k=>
   PySem.getMethod_builtin ⟨_,e1,e2⟩ F.plainAttrs_list sl ty (λ b eb=>by injection eb with eb;subst eb;exact⟨_,e1,e3⟩) k
  rcases hb with rfl|rfl|rfl|rfl<;>obtain rfl:=c8 hy
  ·exact gm F.slot_list_append F.type_list_append (aY _ λ l ys H2 s2 rl R2 q2 u0 ra=>o8 (b:=.append) oa nofun nofun (.cons ra rl) R2 q2)
  ·exact gm F.slot_list_extend F.type_list_extend (aY _ λ l ys H2 s2 rl R2 q2 u0 ra=>o8 (b:=.extend) oa nofun nofun (.cons ra rl) R2 q2)
  ·exact gm F.slot_list_pop F.type_list_pop (aY _ λ l ys H2 s2 rl R2 q2 u0 ra=>o8 (b:=.uA) oa nofun nofun (.cons ra rl) R2 q2)
  ·refine gm F.slot_list_pop F.type_list_pop (aY _ λ l ys H2 s2 rl R2 q2 hc ra=>?_)
   refine fh (Dm (b:=.iP) (λ u0 u0 u0 h=>h.elim) (λ u0 u0 u0 u0 u0 h=>h.elim) q2) λ v w e q3=>?_
   cases e
   refine aG (DI rl) λ y ak ry=>?_;obtain rfl:=ak
   have q4:=q3
   unfold Ad oM at q4
   rcases q4 with⟨a',w',l',e4,_,h4,_⟩|⟨a',tX,i,w',e4,_,h4,_⟩
   ·injection e4 with u1;subst u1;exact uy h4 ry R2 q2
   ·injection e4 with u1;subst u1
    refine ik (Gh R2 h4) λ o1 d1 d2 u0=>?_
    refine aG (hc _ e1) λ o2 f1 f2=>?_
    rw[d1] at f1;obtain rfl:=c8 f1
    rw[d2,e2] at f2;injection f2 with f2;exact absurd f2 (by decide)
 ·refine ik (Gh R' hO) λ ob e1 e2 e3=>?_
  have gm:∀{nm f W E},Slot "dict" nm f->typeOf (.builtin f)=pure (.type "method_descriptor")->W (.builtin f,[.ref a]) s'->wpAny (model B.prog B.w) A (getMethod (.ref a) nm pl) W E s':=λ sl ty k=>
   PySem.getMethod_builtin ⟨_,e1,e2⟩ F.plainAttrs_dict sl ty (λ b eb=>by injection eb with eb;subst eb;exact⟨_,e1,e3⟩) k
  rcases hb with rfl|rfl<;>obtain rfl:=c8 hy
  ·exact gm F.slot_dict_get F.type_dict_get (aY _ λ l ys H2 s2 rl R2 q2 u0 ra=>o8 (b:=.get) oa nofun nofun (.cons ra rl) R2 q2)
  ·refine gm F.slot_dict_pop F.type_dict_pop (aY _ λ l ys H2 s2 rl R2 q2 hc ra=>?_)
   refine fh (Dm (b:=.iP) (λ u0 u0 u0 h=>h.elim) (λ u0 u0 u0 u0 u0 h=>h.elim) q2) λ v w e q3=>?_
   cases e
   refine aG (DI rl) λ y ak ry=>?_;obtain rfl:=ak
   have q4:=q3
   unfold Ad oM at q4
   have rD:=rD rfl
   subst rD
   rcases q4 with⟨a',w',l',e4,_,h4,_⟩|⟨a',tX,i,w',e4,_,h4,_⟩
   ·injection e4 with u1;subst u1
    refine ik (MA R2 h4) λ o1 d1 d2 u0=>?_
    refine aG (hc _ e1) λ o2 f1 f2=>?_
    rw[d1] at f1;obtain rfl:=c8 f1
    rw[d2,e2] at f2;injection f2 with f2;exact absurd f2 (by decide)
   ·injection e4 with u1;subst u1;exact uz h4 ry R2 q2
theorem Og(kn:KN B)(hy:cg sc "OPERANDS"=true)(hk:jv k=true)(ih:SE B n C sc ρ ro i k):SE B n C sc ρ ro (.Dt i) (.Subscript (.Name "OPERANDS" np) k p):=λ A H s env fr Q oa hs r R hw=>by
 refine nQ kn.od λ a m e1 e2 e3=>?_
 refine Subscript_ (Jp hs hy r R e1 (bM R (ih _ _ _ _ _ _ oa hs r R hw) λ v y H' s' rv R' S q=>fA R S ?_))
 unfold LK B4 at q
 refine fh q λ z l ak bA=>?_;obtain rfl:=ak;refine bV bA λ hl q=>?_
 refine aK rv λ u0 ak=>?_;obtain rfl:=ak
 refine aG (e3 z l hl) λ x hx rx=>?_
 have hm:s'.heap.MapOf (strKind B.prog B.w) a m:=by
  refine im e2 λ o es ep g rJ=>?_
  exact⟨o,es,ep,R'.base _ _ g,rJ⟩
 have rx:RV B.Z s'.heap (.tup l) x:=(rx.less λ b z w=>((R'.zl b z).2 w).elim).bx ⟨λ b hP u0=>by refine aK hP λ o e=>?_;exact⟨o,R'.base _ _ e⟩,λ b o e u0 u0=>R'.base _ _ e⟩
 exact tail_any hm.typeIs PySem.slot_dict_getitem.lookup (wpAny_getItem_of (knd:=strKind B.prog B.w) (k:=jn z) (by simp[PySem.strKind,PySem.Value.isStrOf]) hm hx (jS R' rx q)) (di hk _ _)
end
theorem zd:(-((2:Int)^62))<=((x0:Nat):Int):=Int.le_trans (gS rfl:-((2:Int)^62)<=0) (g9 _)
theorem ze(h0:x0<x1)(h1:x1=(1000000:Nat)):((x0:Nat):Int)<((2:Int)^62):=RZ (jk h0) h1 (gS rfl)
noncomputable def PI(B:Base)(tgt:Expr)(H:Mine.H)(s:Shared)(ks:Bool)(K:List V->(Mine.H->Prop)->Mine.H->Prop)(sF:Value)(s':Shared):Prop:=
 ∃(I W:Nat->Prop) (items:List V) (dG:Mine.H->Prop),(∀b,I b->¬aR s.heap b/\aR s'.heap b)/\
  (∀b o,s.heap.get? b=some o->s'.heap.get? b=some o)/\(∃h' tk,s'={s with heap:=h',toks:=tk})/\(∀b,W b->ks=true/\∀H:Mine.H,dG H->∃es,H b=some (.ao es))/\items.length<aZ/\
  (∀Z':Nat->Prop,(∀b,I b->Z' b)->(∀b,Z' b->aR s'.heap b->B.Z b\/I b)->∃St,Iter B Z' tgt sF I W items dG St/\St 0 s'.heap)/\K items dG H
noncomputable def MZ(it:It)(tgt:Expr):Prop:=match it with
 | .zip _ _=>∃oJ x1 pos,tgt=.Tuple oJ x1 pos
 | .enum _=>∃oJ x1 pos,tgt=.Tuple oJ x1 pos
 |_=>True
section
variable (B : Base) (n : Nat) (C : CS) (sc : Scope) (ρ : fS) (ro : Bool)
noncomputable def SI(it:It)(x:Expr):Prop:=∀(A:Around) (H:Mine.H) (s:Shared) (env:Env) (fr:Mine.Fr) (K:List V->(Mine.H->Prop)->Mine.H->Prop) (tgt:Expr) (ks:Bool),j6 n A->env.scope=sc->eD B H s.heap env ρ fr->Rel B H s.heap->MZ it tgt->(yd it=true->ks=true)->R7 C it fr K H->
 wpAny (model B.prog B.w) A (eval x env) (λ xv aW=>wpAny (model B.prog B.w) A (pyIter xv) (λ sF NB=>∃H' oI,Rel B H' oI.heap/\Step B.Z bH ro H s H' oI/\PI B tgt H' oI ks K sF NB) dq aW) dq s
end
section
variable {B : Base} {n : Nat} {C : CS} {sc : Scope} {ρ : fS} {ro : Bool} {A : Around} {H : Mine.H} {s : Shared} {K : List V -> (Mine.H -> Prop) -> Mine.H -> Prop} {tgt : Expr} {ks : Bool}
theorem tj{I Z':Nat->Prop}(k:∀b o,h.get? b=some o->h'.get? b=some o)(hI:∀b,I b->¬aR h b/\aR h' b)(q:∀b,Z' b->aR h' b->B.Z b\/I b):∀a,Z' a->aR h a->B.Z a:=λ a z l=>
 (q a z (by refine aK l λ o e=>?_;exact⟨o,k a o e⟩)).elim id λ i=>((hI a i).1 l).elim
theorem o9(h:Heap)(o:Obj)(he:o.isFreed=false):∀b,one h.objs.size b->¬aR h b/\aR (h.push o) b:=λ b e=>e ▸ ⟨bW (bE _),_,fW _ he⟩
theorem FG{dG:Mine.H->Prop}:∀b,bH b->ks=true/\∀H:Mine.H,dG H->∃es,H b=some (.ao es):=λ u0=>False.elim
theorem pk{h:Heap}:∀b o',h.get? b=some o'->(h.push o).get? b=some o':=λ u0 u0 e=>fR _ e
theorem EN(rx:RV B.Z s.heap v x)(R:Rel B H s.heap)(h:sQ v K H):wpAny (model B.prog B.w) A (pyIter x) (PI B tgt H s ks K) dq s:=by
 unfold sQ at h
 cases v with
 |tup l=>
  refine bV h λ hl q=>?_
  refine im (ie rx) λ a xs m ak bA=>?_;obtain rfl:=ak;refine gM bA λ e z r hsz=>?_
  refine ix (k:=.tuple) (xs:=xs) ⟨_,e,rfl,m,rfl⟩ ?_
  exact⟨one s.heap.objs.size,bH,l,_,o9 _ _ rfl,pk,⟨_,_,rfl⟩,FG,hl,λ Z' hI hL=>⟨_,Iter.seq (k:=.tuple) (a:=a) (hI _ rfl) (.tup (l:=l)),.new,(rx.less (tj pk (o9 _ _ rfl) hL)).grow (dX.keeps pk)⟩,q⟩
 |ref a=>
  refine ik h λ l hl hn q=>?_
  obtain rfl:=eI rx
  refine lk (R.bS hl) λ xs m e z r hsz=>?_
  refine ix (k:=.list) (xs:=xs) ⟨_,e,rfl,m,rfl⟩ ?_
  exact⟨one s.heap.objs.size,bH,l,_,o9 _ _ rfl,pk,⟨_,_,rfl⟩,FG,hn,λ Z' hI hL=>⟨_,Iter.seq (k:=.list) (a:=a) (hI _ rfl) (.list (l:=l)),.new,trivial⟩,q⟩
 |_=>exact h.elim
theorem EO(rx:RV B.Z s.heap v x)(R:Rel B H s.heap)(hk:ks=true)(h:yl v K H):wpAny (model B.prog B.w) A (pyIter x) (PI B tgt H s ks K) dq s:=by
 unfold yl at h
 refine fh h λ a es ak bA=>?_;obtain rfl:=ak;refine fy bA λ hd hn q=>?_
 obtain rfl:=eI rx
 refine aG (R.ee hd) λ bY MN rk=>?_
 refine aK MN.dictAt λ ep ma=>?_
 refine wpAny_pyIter_dict (R.gh hd) ma ?_
 exact⟨one s.heap.objs.size,one a,es.map λ p=> .int p.1,λ H:Mine.H=>H a=some (.ao es),o9 _ _ rfl,pk,⟨_,_,rfl⟩,λ b e=>⟨hk,λ H c=>⟨es,e ▸ c⟩⟩,by rw[dR];exact hn,
  λ Z' hI hL=>⟨_,Iter.keys (a:=a) (es:=es) (hI _ rfl) rk.HH,⟨_,fW _ rfl,rfl,rfl⟩,ma.push _⟩,q⟩
theorem BN(rx:RV B.Z s.heap v x)(R:Rel B H s.heap)(h:nV v K H):wpAny (model B.prog B.w) A (call (.type "range") [x]) (λ xv aW=>wpAny (model B.prog B.w) A (pyIter xv) (PI B tgt H s ks K) dq aW) dq s:=by
 unfold nV at h
 refine aG h λ m ak bA=>?_;obtain rfl:=ak;refine bV bA λ hn q=>?_
 have hL:aZ=1000000:=rfl
 refine aK (rn rx) λ t ak=>?_;obtain rfl:=ak
 refine call_range_1 ?_
 refine wpAny_pyIter_range (IsRange.new _ _ _ _ _ _ _) (small_one (by decide) (by decide) (by exact zd) (by exact ze hn hL)) ?_
 rw[rangeSize_one]
 have he:(if(0:Int)<(m:Int) then(m:Int)-0 else 0)=(m:Int)-((0:Nat):Int):=(Vo m).trans (Int.sub_zero _).symm
 refine⟨one (s.heap.push _).objs.size,bH,dH 0 m,_,λ b e=>⟨λ l=>absurd (iI l.choose_spec) (Nat.not_lt.mpr (by rw[show b=_ from e,Heap.size_push];exact Nat.le_succ _)),(o9 _ _ rfl b e).2⟩,
  λ b o e=>pk b o (pk b o e),⟨_,_,rfl⟩,FG,by rw[gx];exact hn,λ Z' hI hL=>⟨_,Iter.range (n:=m) (hI _ rfl),?_⟩,q⟩
 rw[he]
 exact fW _ rfl
theorem EP(rx:RV B.Z s.heap v x)(R:Rel B H s.heap)(ht:∃oJ x1 pos,tgt=.Tuple oJ x1 pos)(h:yn v K H):wpAny (model B.prog B.w) A (call (.type "enumerate") [x]) (λ xv aW=>wpAny (model B.prog B.w) A (pyIter xv) (PI B tgt H s ks K) dq aW) dq s:=by
 unfold yn at h
 refine fh h λ a l ak bA=>?_;obtain rfl:=ak;refine fy bA λ hl hn q=>?_
 refine ON ht λ oJ x1 pos ak=>?_;obtain rfl:=ak
 obtain rfl:=eI rx
 refine lk (R.bS hl) λ xs m e z r hsz=>?_
 refine call_enumerate_1 e λ h' he vq rC k=>wpAny_pyIter_enum he ?_
 have nl:∀b,(b=s.heap.objs.size+1\/b=s.heap.objs.size)->¬aR s.heap b/\aR h' b:=λ b e=>by
  rcases e with rfl|rfl
  ·exact⟨bW (by exact aL [_] X0 (Pl X0 (Nm 1)) rfl),_,he⟩
  ·exact⟨bW (by exact aL [_] X0 X0 rfl),aP.live (k:=.list) vq⟩
 exact⟨_,bH,iK 0 l,_,nl,k,⟨h',s.toks,rfl⟩,FG,by rw[pP];exact hn,λ Z' hI hL=>⟨_,Iter.enum (e:=s.heap.objs.size+1) (it:=s.heap.objs.size) (a:=a) z hI,⟨_,he⟩,vq,by exact Nat.ne_of_gt (aL [_] (Pl X0 (Nm 1)) (Pl X0 (Nm 1)) rfl)⟩,q⟩
theorem wJ{c:Mine.H->Prop}(rx:RV B.Z s.heap v x)(R:Rel B H s.heap)(h:FK H v l c):∃k a xs,x=.ref a/\Src v k a l c/\SeqAt k s.heap a xs/\gO B.Z s.heap k a l/\c H:=by
 rcases h with⟨rfl,rfl⟩|⟨a,rfl,hl,rfl⟩
 ·refine im (ie rx) λ a xs m ak bA=>?_;obtain rfl:=ak;refine gM bA λ e z r hsz=>?_
  exact⟨.tuple,a,xs,rfl,.tup,⟨_,e,rfl,m,rfl⟩,rx,trivial⟩
 ·obtain rfl:=eI rx
  refine lk (R.bS hl) λ xs m e z r hsz=>?_
  exact⟨.list,a,xs,rfl,.list,⟨_,e,rfl,m,rfl⟩,trivial,hl⟩
theorem gO.less{Z Z':Nat->Prop}(q:∀a,Z a->aR h a->Z' a)(x:gO Z' h k a l):gO Z h k a l:=by
 cases k
 ·trivial
 ·exact RV.less q x
theorem gO.keeps{Z:Nat->Prop}(kk:∀b o,h.get? b=some o->h'.get? b=some o)(x:gO Z h k a l):gO Z h' k a l:=x.bx (dX.keeps kk).bx
theorem vT{m l1 l2:Nat}(h1:l1<m)(h2:l2<m):ZipApart (m+4) (m+2) (m+3) m (m+1) l1 l2:=by
 have na:∀{a b:Nat},a≠b->m+a≠m+b:=λ h e=>h (Nat.add_left_cancel e)
 have nb:∀{l k:Nat},l<m->l≠m+k:=λ h=>Nat.ne_of_lt (kI h (Nat.le_add_right _ _))
 exact⟨na (by decide),na (by decide),na (a:=0) (by decide),na (by decide),na (by decide),na (b:=0) (by decide),na (by decide),na (b:=0) (by decide),na (by decide),na (a:=0) (by decide),nb h1,nb h1,nb (k:=0) h1,nb h1,nb h2,nb h2,nb (k:=0) h2,nb h2⟩
theorem Ia(rx:RV B.Z s.heap v x)(ry:RV B.Z s.heap w y)(R:Rel B H s.heap)(ht:∃oJ x1 pos,tgt=.Tuple oJ x1 pos)(h:sK v w K H):wpAny (model B.prog B.w) A (call (.type "zip") [x,y]) (λ xv aW=>wpAny (model B.prog B.w) A (pyIter xv) (PI B tgt H s ks K) dq aW) dq s:=by
 unfold sK at h
 refine Vn h λ l c m d hl hm hn IP q=>?_
 refine ON ht λ oJ x1 pos ak=>?_;obtain rfl:=ak
 refine im (wJ rx R hl) λ ka a xs ak bA=>?_;obtain rfl:=ak;refine gM bA λ sx sq ok ch=>?_
 refine im (wJ ry R hm) λ kb b ys ak bA=>?_;obtain rfl:=ak;refine gM bA λ sy Pj TB dh=>?_
 refine vR sq Pj λ h' hz oC nu i1 i2 rC k=>?_
 have nl:∀b,qm (s.heap.objs.size+4) (s.heap.objs.size+3) s.heap.objs.size (s.heap.objs.size+1) b->¬aR s.heap b/\aR h' b:=λ b e=>by
  rcases e with rfl|rfl|rfl|rfl
  ·exact⟨bW (by exact aL [_] X0 (Pl X0 (Nm 4)) rfl),_,hz⟩
  ·exact⟨bW (by exact aL [_] X0 (Pl X0 (Nm 3)) rfl),_,nu⟩
  ·exact⟨bW (by exact aL [_] X0 X0 rfl),i1.live⟩
  ·exact⟨bW (by exact aL [_] X0 (Pl X0 (Nm 1)) rfl),i2.live⟩
 have D:=vT (iI sq.live.choose_spec) (iI Pj.live.choose_spec)
 have mk:∀Z':Nat->Prop,(∀b,qm (s.heap.objs.size+4) (s.heap.objs.size+3) s.heap.objs.size (s.heap.objs.size+1) b->Z' b)->(∀b,Z' b->aR h' b->B.Z b\/qm (s.heap.objs.size+4) (s.heap.objs.size+3) s.heap.objs.size (s.heap.objs.size+1) b)->
   Iter B Z' (.Tuple oJ x1 pos) (.ref (s.heap.objs.size+4)) (qm (s.heap.objs.size+4) (s.heap.objs.size+3) s.heap.objs.size (s.heap.objs.size+1)) bH (iQ l m) (λ H=>c H/\d H) (Ge Z' ka kb (s.heap.objs.size+4) (s.heap.objs.size+2) (s.heap.objs.size+3) s.heap.objs.size (s.heap.objs.size+1) a b l m)/\
   Ge Z' ka kb (s.heap.objs.size+4) (s.heap.objs.size+2) (s.heap.objs.size+3) s.heap.objs.size (s.heap.objs.size+1) a b l m 0 h':=λ Z' hI hL=>
  ⟨Iter.zip D hI (λ e=>(hL _ e ⟨_,oC⟩).elim (λ z=>absurd (iI (R.zl _ z).1.choose_spec) (Nat.not_lt.mpr (Nat.le_add_right _ _))) (λ e=>e.elim D.TIz λ e=>e.elim D.TITO λ e=>e.elim D.TIi1 D.TIi2)) sx sy,
   hz,oC,⟨_,_,nu⟩,i1,i2,(ok.less (tj k nl hL)).keeps k,(TB.less (tj k nl hL)).keeps k⟩
 refine bV (mk (λ a=>B.Z a\/qm (s.heap.objs.size+4) (s.heap.objs.size+3) s.heap.objs.size (s.heap.objs.size+1) a) (λ b=> .inr) λ b z u0=>z) λ it st=>?_
 exact it.self (s:={s with heap:=h'}) st ⟨_,bH,iQ l m,_,nl,k,⟨h',s.toks,rfl⟩,FG,by rw[i3];exact cO (Nat.min_le_left _ _) hn,λ Z' hI hL=>⟨_,mk Z' hI hL⟩,q⟩
end
noncomputable def dA(env:Env):List (Str×NameKind)->List (Str×Nat)->List (Str×Nat)
 |[],cs=>cs
 |p::r,cs=>if p.2== .free then dA env r ((p.1,(env.cells.lookup p.1).getD 0)::cs) else dA env r cs
theorem EQ{f:Str×NameKind->List (Str×Addr)->Sem (ForInStep (List (Str×Addr)))}
  (hf:∀p cs,f p cs=if p.2== .free then(do let c←cellOf env p.1;pure (.yield ((p.1,c)::cs))) else pure (.yield cs)):
  ∀(names:List (Str×NameKind)) (cs:List (Str×Nat)),(∀p∈names,p.2=.free->∃c,env.cells.lookup p.1=some c)->forIn names cs f=pure (dA env names cs):=by
 intro xR
 induction xR with
 |nil=>
  intro cs _
  rw[List.forIn_nil];rfl
 |cons p r aU=>
  intro cs h
  have ih:=λ cs=>aU cs λ p hp=>h p (.tail _ hp)
  rw[List.forIn_cons,hf]
  unfold dA
  cases e:(p.2==NameKind.free) with
  |true=>
   rw[if_pos rfl,if_pos rfl]
   refine aK (h p (.head _) (eq_of_beq e)) λ c hc=>?_
   have:cellOf env p.1=pure c:=by unfold cellOf;rw[hc]
   rw[this,hc,←ih];rfl
  |false=>rw[if_neg kX,if_neg kX,←ih];rfl
theorem tU(h:∀p∈scope.names,p.2=.free->∃c,env.cells.lookup p.1=some c):closureFor scope env=pure (dA env scope.names []):=by
 simp only[closureFor]
 rw[EQ (env:=env) (λ p cs=>by obtain⟨a,b⟩:=p;rfl) scope.names [] h]
 rfl
set_option tactic.hygienic true in
theorem BO : ∀ {names : List (Str × NameKind)} {cs : List (Str × Nat)}, (∀ p ∈ names, p.2 = .free -> ∃ c, env.cells.lookup p.1 = some c) -> (cs.lookup x = some c -> env.cells.lookup x = some c) ->
    (dA env names cs).lookup x = some c -> env.cells.lookup x = some c := by
  intro xR
  induction xR with
  | nil =>
    intro cs _ h e
    exact h e
  | cons p r aU =>
    intro cs hp h e
    unfold dA at e
    split at e
    · rename_i q
      refine aU (λ p m => hp p (.tail _ m)) (λ e2 => ?_) e
      rw [nv] at e2
      cases q2 : (x == p.1) with
      | true =>
        rw [q2] at e2
        refine aK (hp p (.head _) (eq_of_beq q)) λ c' hc => ?_
        rw [hc] at e2
        injection e2 with e2
        rw [eq_of_beq q2, hc]; exact congrArg some e2
      | false => rw [q2] at e2; exact h e2
    · exact aU (λ p m => hp p (.tail _ m)) h e
set_option tactic.hygienic true in
theorem BP (hc : env.cells.lookup x = some c) : ∀ {names : List (Str × NameKind)} {cs : List (Str × Nat)}, ((x, NameKind.free) ∈ names \/ cs.lookup x = some c) -> (dA env names cs).lookup x = some c := by
  intro xR
  induction xR with
  | nil =>
    intro cs h
    exact h.elim (λ q => nomatch q) id
  | cons p r aU =>
    intro cs h
    unfold dA
    have rU : cs.lookup x = some c -> ((p.1, (env.cells.lookup p.1).getD 0) :: cs).lookup x = some c := λ e => by
      rw [nv]
      cases q2 : (x == p.1) with
      | true => rw [← eq_of_beq q2, hc]; rfl
      | false => exact e
    split
    · rename_i q
      refine aU ?_
      rcases h with h | h
      · rcases ci h with e | m
        · right; rw [← e, nv, beq_self_eq_true, hc]; rfl
        · exact .inl m
      · exact .inr (rU h)
    · rename_i q
      refine aU ?_
      rcases h with h | h
      · rcases ci h with e | m
        · rw [← e] at q; exact absurd rfl q
        · exact .inl m
      · exact .inr h
section
variable {B : Base} {n : Nat} {C : CS} {sc scope : Scope} {ρ : fS} {ro : Bool} {A : Around} {H : Mine.H} {h : Heap} {s : Shared} {env : Env} {fr : Mine.Fr} {z : Str} {bp : Nat}
structure nZ (scope sc:Scope) (ρ:fS) (x:Str) (bp:Nat):Prop where
 kd:scope.kind=.function
 lo:scope.names.lookup x=some .local
 sl:∀p∈ρ,p.2≠bp
 d0:ρ.lookup (".0":Str)=none
 x0:x≠(".0":Str)
 nc:∀y∈scope.names,y.2≠.cell
 lc:∀y∈scope.names,y.2=.local->scope.names.lookup y.1=some .local/\(y.1=x\/y.1=(".0":Str))
 fc:∀y∈scope.names,y.2=.free->(∃i,ρ.lookup y.1=some i)/\sc.names.lookup y.1=some .cell
theorem wK{α:Type}[BEq α][LawfulBEq α]{a b:α}(h:(a !=b)=true):a≠b:=by intro e;subst e;simp at h
theorem vU(h:AV scope sc ρ z bp=true):nZ scope sc ρ z bp:=by
 unfold AV at h
 simp only[Bool.and_eq_true] at h
 refine bV h λ ak h6=>?_;refine bV ak λ ak h5=>?_;obtain⟨⟨⟨h1,h2⟩,h3⟩,h4⟩:=ak
 rw[List.all_eq_true] at h3 h6
 have h6:=λ y m=>by
  have:=h6 y m
  simp only[Bool.and_eq_true] at this
  exact this
 refine⟨eq_of_beq h1,eq_of_beq h2,λ p m=>wK (h3 p m),by simpa using h4,wK h5,λ y m=>wK (h6 y m).1.1,λ y m e=>?_,λ y m e=>?_⟩
 ·have:=(h6 y m).1.2
  rw[e] at this
  simp only[bne_self_eq_false,Bool.false_or,Bool.and_eq_true,Bool.or_eq_true] at this
  exact⟨eq_of_beq this.1,this.2.imp eq_of_beq eq_of_beq⟩
 ·have:=(h6 y m).2
  rw[e] at this
  simp only[bne_self_eq_false,Bool.false_or,Bool.and_eq_true] at this
  exact⟨Option.isSome_iff_exists.mp this.1,eq_of_beq this.2⟩
theorem zf(fk:env.scope.kind=.function)(hs:env.scope=sc):relabel scope env=oK scope sc:=by
 unfold relabel oK Env.kindOf
 rw[fk,hs]
 simp
theorem BQ:∀{names:List (Str×NameKind)},(names.map λ(n,k)=>if(k== .free&&sc.names.lookup n==some .cell) then(n,NameKind.cell) else(n,k)).lookup x=some k->
  ∃k',(x,k')∈names/\(k=k'\/(k=.cell/\k'=.free)):=by
 intro xR
 induction xR with
 |nil=>
  intro e
  exact dD e
 |cons pX r aU=>
  obtain⟨y,k1⟩:=pX
  intro e
  rw[List.map_cons] at e
  by_cases c:(k1== .free&&sc.names.lookup y==some .cell)=true
  ·simp only[c,if_true] at e
   rw[nv] at e
   cases q:(x==y) with
   |true=>
    rw[q] at e;injection e with e
    rw[eq_of_beq q]
    exact⟨k1,.head _,.inr ⟨e.symm,eq_of_beq (Bool.and_eq_true_iff.mp c).1⟩⟩
   |false=>
    rw[q] at e
    refine aG (aU e) λ k' m o=>?_
    exact⟨k',.tail _ m,o⟩
  ·simp only[c,if_false,Bool.false_eq_true] at e
   rw[nv] at e
   cases q:(x==y) with
   |true=>
    rw[q] at e;injection e with e
    rw[eq_of_beq q]
    exact⟨k1,.head _,.inl e.symm⟩
   |false=>
    rw[q] at e
    refine aG (aU e) λ k' m o=>?_
    exact⟨k',.tail _ m,o⟩
theorem eD.cellsOf(r:eD B H h env ρ fr)(hs:env.scope=sc)(ok:nZ scope sc ρ z bp):∀p∈scope.names,p.2=.free->∃c,env.cells.lookup p.1=some c:=λ p m e=>by
 refine bV (ok.fc p m e) λ ak e2=>?_;refine aK ak λ i e1=>?_
 refine fh (r.ce p.1 i e1 (by unfold Env.kindOf;rw[hs];exact e2)) λ c vo e3 u0=>?_
 exact⟨c,e3⟩
theorem BR:∀{ρ:fS},ρ.lookup x=some i->(x,i)∈ρ:=by
 intro xR
 induction xR with
 |nil=>
  intro e
  exact dD e
 |cons pX r aU=>
  obtain⟨y,j⟩:=pX
  intro e
  rw[nv] at e
  cases q:(x==y) with
  |true=>rw[q] at e;injection e with e;rw[eq_of_beq q,e];exact .head _
  |false=>rw[q] at e;exact .tail _ (aU e)
theorem eD.comp(r:eD B H h env ρ fr)(hs:env.scope=sc)(ok:nZ scope sc ρ z bp){Cx:Nat}{m:Str->Option Value}(hn:h.Ns Cx m)(hm:m z=some y)(ry:RV B.Z h v y)
  (hC:aR h Cx/\¬j5 H h Cx/\¬aR B.h₀ Cx)(nC:∀x,env.cells.lookup x≠some Cx):eD B H h (compEnvC scope (dA env scope.names []) Cx env) ((z,bp)::ρ) (fr.set bp (some v)):=by
 have SH:(compEnvC scope (dA env scope.names []) Cx env).scope=oK scope sc:=zf r.fk hs
 have sub:∀{x c},(dA env scope.names []).lookup x=some c->env.cells.lookup x=some c:=λ e=>BO (r.cellsOf hs ok) (λ e=>by cases e) e
 have kz:∀x k,Env.kindOf (compEnvC scope (dA env scope.names []) Cx env) x=some k->∃k',(x,k')∈scope.names/\(k=k'\/(k=.cell/\k'=.free)):=λ x k e=>by
  unfold Env.kindOf at e
  rw[SH] at e
  exact BQ e
 refine⟨ok.kd,r.gl,r.bl,⟨m,hn,λ x i w e k f=>?_⟩,λ x i e k=>?_,λ x x' c e e'=>r.ap x x' c (sub e) (sub e'),λ b f=>?_,λ x e=>nC x (sub e),λ x c e=>r.cc x c (sub e)⟩
 ·rw[nv] at e
  cases q:(x==z) with
  |true=>
   rw[q] at e;injection e with e;subst e
   rw[eq_of_beq q]
   rcases jY f with⟨_,rfl⟩|⟨n,_⟩
   ·exact⟨y,hm,ry⟩
   ·exact absurd rfl n
  |false=>
   rw[q] at e
   refine aG (kz x _ k) λ k' mem o=>?_
   rcases o with rfl|⟨o,_⟩
   ·rcases(ok.lc _ mem rfl).2 with e1|e1
    ·have e1:x=z:=e1
     rw[e1,beq_self_eq_true] at q;exact IJ q
    ·have e1:x=(".0":Str):=e1
     rw[e1,ok.d0] at e;exact dD e
   ·injection o
 ·rw[nv] at e
  refine aG (kz x _ k) λ k' mem o=>?_
  rcases o with rfl|⟨_,rfl⟩
  ·exact absurd rfl (ok.nc _ mem)
  ·refine bV (ok.fc _ mem rfl) λ ak e2=>?_;refine aK ak λ j e1=>?_
   have e1:ρ.lookup x=some j:=e1
   cases q:(x==z) with
   |true=>
    --XP name is local
    exfalso
    have lz:=lookup_relabel_local (env:=env) ok.lo
    have k2:Env.kindOf (compEnvC scope (dA env scope.names []) Cx env) x=some .local:=by
     unfold Env.kindOf
     rw[eq_of_beq q]
     exact lz
    rw[k] at k2;cases k2
   |false=>
    rw[q] at e
    have e:ρ.lookup x=some i:=e
    refine nQ (r.ce x i e (by unfold Env.kindOf;rw[hs];exact e2)) λ c vo e3 e4 e5=>?_
    refine⟨c,vo,BP e3 (.inl mem),e4,λ w f=>?_⟩
    rcases jY f with⟨e6,_⟩|⟨_,f'⟩
    ·exact absurd e6.symm (ok.sl _ (BR e))
    ·exact e5 w f'
 ·rcases f with rfl|⟨x,e⟩
  ·exact hC
  ·exact r.ow b (.inr ⟨x,sub e⟩)
noncomputable def CB(env:Env)(c:Expr)(r:Bool):Sem (ForInStep Bool):=if r=true then do let ok←isTrue c env (eval c env);pure (ForInStep.yield ok) else pure (ForInStep.yield r)
theorem zY:∀xs:List Expr,forIn xs false (CB env)=pure false:=by
 intro xR
 induction xR with
 |nil=>
  rw[List.forIn_nil]
 |cons x xs aU=>
  rw[List.forIn_cons,←aU]
  unfold CB
  rw[if_neg kX];rfl
theorem Dp:∀{es:Es} {xs:List Expr},rK (ST B n C sc ρ ro) es xs->∀{A:Around} {H:Mine.H} {s:Shared} {env:Env} {fr:Mine.Fr} {Q:Bool->Mine.H->Prop},j6 n A->env.scope=sc->eD B H s.heap env ρ fr->Rel B H s.heap->kJ C es fr Q H->
  wpAny (model B.prog B.w) A (forIn xs true (CB env)) (PB B ro H s Q) dq s
 | .nil,_,e,_,_,_,_,_,_,oa,hs,r,R,hw=>by cases e;rw[List.forIn_nil];exact a8 ⟨_,R,.refl ..,hw⟩
 | .cons e es,_,⟨x,ys,ex,ih,lA⟩,A,H,s,env,fr,Q,oa,hs,r,R,hw=>by
  subst ex
  rw[List.forIn_cons]
  unfold CB
  rw[if_pos rfl]
  refine aq (aq (vy R (ih _ _ _ _ _ _ oa hs r R hw) λ b H' s' R' S q=>a8 ?_))
  cases b with
  |true=>exact AY R S (Dp lA oa hs (r.go S) R' q)
  |false=>exact wpAny_of_eq (zY ys) ⟨H',R',S,q⟩
set_option tactic.hygienic true in
theorem Rel.adopt {D : Nat} {O : Mine.O} (R : Rel B H h) (hD : ¬j5 H h D) (h0 : ¬aR B.h₀ D /\ 3 < D) (ro : RO B h D O) (hO : ∀ c fs, O ≠ .inst c fs) : H D = none /\ Rel B (aC H D O) h := by
  have hn : H D = none := by
    cases e : H D with
    | none => rfl
    | some o => exact absurd (.inl ⟨o, e⟩) hD
  have hi : ∀ a, bK (aC H D O) a -> bK H a := λ a hP => by
    refine gN hP λ c fs e => ?_
    unfold aC at e
    split at e
    · injection e with e; exact absurd e (hO _ _)
    · exact ⟨c, fs, e⟩
  refine ⟨hn, R.base, R.zl, λ a o e => ?_, λ a a' d i i' => R.sep a a' d (hi a i) (hi a' i'), λ a d i e => ?_⟩
  · unfold aC at e
    split at e
    · rename_i q; injection e with e; subst e; subst q; exact ⟨h0, ro⟩
    · exact R.obj a o e
  · refine bV (R.mH a d (hi a i) e) λ e1 e2 => ?_
    refine ⟨?_, e2⟩
    unfold aC
    split
    · rename_i q; subst q; exact absurd (.inr ⟨a, hi a i, e⟩) hD
    · exact e1
set_option tactic.hygienic true in
theorem Step.adopt {Z F : Nat -> Prop} {D : Nat} {O : Mine.O} (S : Step Z F ro H s H' s') (hD : ¬aR s.heap D) (hO : ∀ c fs, O ≠ .inst c fs) : Step Z F ro H s (aC H' D O) s' where
  same := S.same
  grow := S.grow
  keep := S.keep
  rH := λ a o e l => by
    unfold aC at e
    split at e
    · rename_i q; subst q; exact absurd l hD
    · exact S.rH a o e l
  mI := λ a d hP => by refine gN hP λ c fs e => ?_; exact S.mI a d (by
    unfold aC at e
    split at e
    · injection e with e; exact absurd e (hO _ _)
    · exact ⟨c, fs, e⟩)
  ro := S.ro
  fr := S.fr
  cls := S.cls
end
structure LC (B:Base) (Z' I:Nat->Prop) (s:Shared):Prop where
 sub:∀b,B.Z b->Z' b
 nt:∀b,I b->Z' b
 zi:∀b,Z' b->B.Z b\/I b
 new:∀b,I b->¬aR s.heap b
structure LS (B:Base) (Z' I F:Nat->Prop) (ro:Bool) (H:Mine.H) (s:Shared) (env:Env) (ρ:fS) (fr:Mine.Fr) (Hi:Mine.H) (σ:Shared):Prop where
 rel:Rel (B.with Z') Hi σ.heap
 Ai:eD (B.with Z') Hi σ.heap env ρ fr
 step:Step B.Z F ro H s Hi σ
 own:∀b,I b->¬j5 Hi σ.heap b
section
variable {B : Base} {Z' I F : Nat -> Prop} {ro rb : Bool} {H Hi H2 : Mine.H} {s σ OJ : Shared} {env : Env} {ρ : fS} {fr OK : Mine.Fr}
theorem LC.OL(c:LC B Z' I s)(R:Rel B H s.heap):∀b,I b->¬aR B.h₀ b:=λ b i hP=>by refine aK hP λ o e=>?_;exact c.new b i ⟨o,R.base b o e⟩
theorem LC.fa(c:LC B Z' I s)(r:eD B H s.heap env ρ fr):∀b,FA env b->¬I b:=λ b f i=>c.new b i (r.ow b f).1
theorem LS.live(L:LS B Z' I F ro H s env ρ fr Hi σ)(c:LC B Z' I s):∀b,I b->aR σ.heap b:=λ b i=>(L.rel.zl b (c.nt b i)).1
theorem LS.turn(c:LC B Z' I s)(R:Rel B H s.heap)(r:eD B H s.heap env ρ fr)(L:LS B Z' I F ro H s env ρ OK Hi σ){h':Heap}{tk:Nat}(k:∀b o,¬I b->σ.heap.get? b=some o->h'.get? b=some o)(lv:∀b,I b->aR h' b):
  LS B Z' I F ro H s env ρ OK Hi {σ with heap:=h',toks:=tk}:=by
 have hI:∀b,I b->¬j5 Hi σ.heap b/\¬aR B.h₀ b:=λ b i=>⟨L.own b i,c.OL R b i⟩
 have kd:∀b,bK Hi b->aH h' b=aH σ.heap b:=λ b hP=>by refine gN hP λ c' fs e=>?_;unfold aH;rw[lW (I:=I) L.rel (λ b q=>(hI b q).1) k (.inl ⟨_,e⟩)]
 refine⟨Rel.turn (B:=B.with Z') L.rel hI c.nt k (λ u0=>id) λ a z=>⟨?_,(L.rel.zl a z).2⟩,eD.turn (B:=B.with Z') L.Ai L.rel hI c.nt k (λ u0=>id) (c.fa r),
  L.step.trail (I:=I) (L.rel.V9 c.sub) (λ b i=>⟨c.new b i,L.own b i⟩) ⟨h',tk,rfl⟩ k,λ b i q=>L.own b i ?_⟩
 ·by_cases i:I a
  ·exact lv a i
  ·refine aK ((L.rel.zl a z).1) λ o e=>?_
   exact⟨o,k a o i e⟩
 ·rcases q with⟨O,e⟩|⟨a,ia,d⟩
  ·exact .inl ⟨O,e⟩
  ·exact .inr ⟨a,ia,kd a ia ▸ d⟩
theorem LS.body(c:LC B Z' I s)(R:Rel B H s.heap)(rD:ro=true->rb=true)(L:LS B Z' I F ro H s env ρ fr Hi σ)(y:Step Z' F rb Hi σ H2 OJ)(R2:Rel (B.with Z') H2 OJ.heap)(r2:eD (B.with Z') H2 OJ.heap env ρ OK):
  LS B Z' I F ro H s env ρ OK H2 OJ:=
 ⟨R2,r2,(L.step.N7 R y λ a z l=>(c.zi a z).elim id λ i=>(c.new a i l).elim).weaken λ h=>by rw[h,rD h];rfl,λ b i q=>L.own b i (y.own q (L.live c b i))⟩
theorem LS.keep{I' W:Nat->Prop}{dG:Mine.H->Prop}{St:Nat->Heap->Prop}(L:LS B Z' I F ro H s env ρ fr Hi σ)(hI:∀b,I' b->I b)(hF:∀b,I b->¬F b)(x:Iter B Z' tgt it I' W items dG St)
  (hW:∀b,W b->rb=true/\∀H:Mine.H,dG H->∃es,H b=some (.ao es))(hc:dG Hi)(st:St i σ.heap)(y:Step Z' F rb Hi σ H2 OJ):St i OJ.heap:=
 x.keep st (λ b o q e=>by
  rcases q with q|q
  ·exact y.keep b o e (L.own b (hI b q)) (hF b (hI b q))
  ·refine bV (hW b q) λ h1 h2=>?_
   refine aK (h2 _ hc) λ es e2=>?_
   refine ik (Gh L.rel e2) λ o' e3 e4 u0=>?_
   rw[e] at e3;obtain rfl:=c8 e3
   exact y.ro h1 b _ o e2 e e4) y.grow.bx
theorem LS.shrink{Z2 I2 J:Nat->Prop}(c:LC B Z' I s)(c2:LC B Z2 I2 s)(R:Rel B H s.heap)(r:eD B H s.heap env ρ fr)(hJ:∀b,J b->I b)(TC:∀b,I2 b->I b/\¬J b)(L:LS B Z' I F ro H s env ρ OK Hi σ)
  (k:∀b o,¬J b->σ.heap.get? b=some o->h'.get? b=some o):LS B Z2 I2 F ro H s env ρ OK Hi {σ with heap:=h',toks:=tk}:=by
 have hI:∀b,J b->¬j5 Hi σ.heap b/\¬aR B.h₀ b:=λ b i=>⟨L.own b (hJ b i),c.OL R b (hJ b i)⟩
 have sub:∀b,Z2 b->Z' b:=λ b z=>(c2.zi b z).elim (c.sub b) λ i=>c.nt b (TC b i).1
 have nt:∀b,J b->Z' b:=λ b i=>c.nt b (hJ b i)
 have kd:∀b,bK Hi b->aH h' b=aH σ.heap b:=λ b hP=>by refine gN hP λ c' fs e=>?_;unfold aH;rw[lW (I:=J) L.rel (λ b q=>(hI b q).1) k (.inl ⟨_,e⟩)]
 refine⟨Rel.turn (B:=B.with Z2) L.rel hI nt k sub λ a z=>⟨?_,(L.rel.zl a (sub a z)).2⟩,eD.turn (B:=B.with Z2) L.Ai L.rel hI nt k sub (λ b f i=>c.fa r b f (hJ b i)),
  L.step.trail (I:=J) (L.rel.V9 c.sub) (λ b i=>⟨c.new b (hJ b i),L.own b (hJ b i)⟩) ⟨h',tk,rfl⟩ k,λ b i q=>L.own b (TC b i).1 ?_⟩
 ·refine aK ((L.rel.zl a (sub a z)).1) λ o e=>?_
  exact⟨o,k a o (λ j=>(c2.zi a z).elim (λ z=>c.new a (hJ a j) (R.zl a z).1) λ i=>(TC a i).2 j) e⟩
 ·rcases q with⟨O,e⟩|⟨a,ia,d⟩
  ·exact .inl ⟨O,e⟩
  ·exact .inr ⟨a,ia,kd a ia ▸ d⟩
theorem LS.start(R:Rel B H s.heap)(r:eD B H s.heap env ρ fr)(e:∃h' tk,s'={s with heap:=h',toks:=tk})(k:∀b o,s.heap.get? b=some o->s'.heap.get? b=some o)(c:LC B Z' I s)(lv:∀b,I b->aR s'.heap b):
  LS B Z' I bH ro H s env ρ fr H s':=by
 have q:∀a,Z' a->aR s.heap a->B.Z a:=λ a z l=>(c.zi a z).elim id λ i=>(c.new a i l).elim
 have kd:∀b,bK H b->aH s'.heap b=aH s.heap b:=λ b i=>by
  refine DK (R.fF i) λ c dx es n e1 u0 u0=>?_
  unfold aH;rw[e1,k _ _ e1]
 refine⟨R.Ts k q λ a z=>?_,r.Ts k q R,?_,λ b i o=>?_⟩
 ·rcases c.zi a z with z|i
  ·refine bV (R.zl a z) λ ak n=>?_;refine aK ak λ o e=>?_
   exact⟨⟨o,k a o e⟩,n⟩
  ·exact⟨lv a i,c.OL R a i⟩
 ·refine gN e λ h' tk ak=>?_;obtain rfl:=ak
  exact(R.quiet (tk:=tk) k).2.weaken λ u0=>rfl
 ·rcases o with⟨O,e⟩|⟨a,ia,d⟩
  ·exact c.new b i (R.lt e)
  ·rw[kd a ia] at d
   refine DK (R.fF ia) λ u0 dx u0 u0 e1 e2 e3=>?_
   rw[e3] at d;obtain rfl:=c8 d
   exact c.new _ i ⟨_,e2⟩
end
structure CI (B:Base) (Z' I I':Nat->Prop) (ro:Bool) (H:Mine.H) (s:Shared) (env:Env) (ρ:fS) (fr:Mine.Fr) (St:Nat->Heap->Prop) (items:List V) (D Cx:Nat) (Wp:List V->List V->Mine.H->Prop) (k i:Nat) (Hi:Mine.H) (acc:List V) (ys:Array Value) (nD:Nat) (m:Str->Option Value) (σ:Shared):Prop where
 k:k=items.length+1-i
 le:i<=items.length
 st:St i σ.heap
 ls:LS B Z' I' bH ro H s env ρ fr Hi σ
 d:σ.heap.get? D=some (dF ys nD)
 rv:cx Z' σ.heap acc ys.toList
 al:acc.length<=i
 ns:σ.heap.Ns Cx m
 w:Wp (items.drop i) acc Hi
theorem vV{Z:Nat->Prop}(z:Z a)(hs:Heap.SameBut a h h'):gQ Z h h':=cy (I:=one a) (λ b e=>e ▸ z) λ b o n e=>(hs.2 b n).trans e
section
variable {B : Base} {n : Nat} {C : CS} {sc scope : Scope} {ρ : fS} {ro rb ks : Bool} {A : Around} {H : Mine.H} {s s' : Shared} {env : Env} {fr : Mine.Fr} {z : Str} {bp : Nat} {Q : V -> Mine.H -> Prop}
theorem Iter.vW{Z' I W:Nat->Prop}{dG:Mine.H->Prop}{St:Nat->Heap->Prop}{E:Value->Shared->Prop}{Q0:Shared->Prop}{M2:Value->Sem Unit}{Q2:Unit->Shared->Prop}
  (it:Iter B Z' (.Name z px) sF I W items dG St)(oa:A.handled=none)(st:St i σ.heap)(R:Rel (B.with Z') Hi σ.heap)(own:∀b,I b->¬j5 Hi σ.heap b)(hc:dG Hi)(hv:items[i]?=some v)
  (h:∀y h' tk,RV Z' h' v y->St (i+1) h'->(∀b o,¬I b->σ.heap.get? b=some o->h'.get? b=some o)->wpAny (model B.prog B.w) A (M2 y) Q2 E {σ with heap:=h',toks:=tk}):
  wpAny (model B.prog B.w) A (pyNext sF) (λ r aW=>match r with|none=>Q0 aW|some v=>wpAny (model B.prog B.w) A (M2 v) Q2 E aW) E σ:=by
 refine cW (it.item (E:=E) (Q:=λ r aW=>match r with|none=>Q0 aW|some v=>wpAny (model B.prog B.w) A (M2 v) Q2 E aW) oa st R own hc hv h) (λ r aW h=>?_) λ u0 u0 x=>x
 cases r with
 |none=>exact h
 |some y=>exact aq (m:=pure ()) h
theorem Iter.vX{Z' I W:Nat->Prop}{dG:Mine.H->Prop}{St:Nat->Heap->Prop}{E:Value->Shared->Prop}{Q0:Shared->Prop}{Q1:Value->Shared->Prop}
  (it:Iter B Z' tgt sF I W items dG St)(oa:A.handled=none)(st:St items.length σ.heap)(R:Rel (B.with Z') Hi σ.heap)(own:∀b,I b->¬j5 Hi σ.heap b)(hc:dG Hi)
  (h:∀h' tk,(∀b o,¬I b->σ.heap.get? b=some o->h'.get? b=some o)->Q0 {σ with heap:=h',toks:=tk}):
  wpAny (model B.prog B.w) A (pyNext sF) (λ r aW=>match r with|none=>Q0 aW|some v=>Q1 v aW) E σ:=
 it.done (E:=E) (Q:=λ r aW=>match r with|none=>Q0 aW|some v=>Q1 v aW) oa st R own hc h
theorem ER{Z' I I' W:Nat->Prop}{dG:Mine.H->Prop}{St:Nat->Heap->Prop}{cond:Es}{px pos:Pos}{D Cx:Nat}{Kf:List V->Mine.H->Prop}{RR:Result->Shared->Prop}
  (ok:nZ scope sc ρ z bp)(hE:SE (B.with Z') n C (oK scope sc) ((z,bp)::ρ) rb gy y)(hC:rK (ST (B.with Z') n C (oK scope sc) ((z,bp)::ρ) rb) cond AG)
  (oa:j6 n A)(hs:env.scope=sc)(R:Rel B H s.heap)(r:eD B H s.heap env ρ fr)(rD:ro=true->rb=true)(c:LC B Z' I' s)(it:Iter B Z' (.Name z px) sF I W items dG St)(cT:items.length<aZ)
  (hI:∀b,I b->I' b)(hD:I' D/\¬I D)(xP:I' Cx/\¬I Cx)(M0:D≠Cx)(hW:∀b,W b->rb=true/\∀H:Mine.H,dG H->∃es,H b=some (.ao es)){m:Str->Option Value}
  (aY:∀Hi acc ys nD m σ,LS B (λ b=>B.Z b\/b=Cx) (one Cx) bH ro H s env ρ fr Hi σ->¬j5 Hi σ.heap D->σ.heap.get? D=some (dF ys nD)->cx (λ b=>B.Z b\/b=Cx) σ.heap acc ys.toList->acc.length<=items.length->σ.heap.Ns Cx m->Kf acc Hi->RR (.ok .next) σ)
  (h:CI B Z' I I' ro H s env ρ fr St items D Cx (λ l acc h=>sZ bp (kJ C cond) (wE C gy) dG fr l acc Kf h) k₀ 0 Hi [] #[] nD m s'):
  codeAny (model B.prog B.w) A (.compLoop (.ListComp y [⟨.Name z px,mJ,AG,0⟩] scope pos) 0 sF (.ref D) (compEnvC scope (dA env scope.names []) Cx env)) RR s':=by
 refine codeAny_compLoop_tests (λ k σ=>∃i Hi acc ys nD m,CI B Z' I I' ro H s env ρ fr St items D Cx (λ l acc h=>sZ bp (kJ C cond) (wE C gy) dG fr l acc Kf h) k i Hi acc ys nD m σ) ?_ _ ⟨_,_,_,_,_,_,h⟩
 rintro k σ ⟨i,Hi,acc,ys,nD,m,X⟩
 have hz:sizeLine=2^24:=rfl
 have hL:aZ=1000000:=rfl
 have zD:Z' D:=c.nt _ hD.1
 have zC:Z' Cx:=c.nt _ xP.1
 have w:=X.w
 --XP Ox Jc
 have XQ:∀{h':Heap} {tk:Nat},(∀b o,¬I b->σ.heap.get? b=some o->h'.get? b=some o)->(∀b,I b->aR h' b)->LS B Z' I' bH ro H s env ρ fr Hi {σ with heap:=h',toks:=tk}:=λ kk lv=>
  X.ls.turn c R r (λ b o n e=>kk b o (λ q=>n (hI b q)) e) λ b q=>by
   by_cases q2:I b
   ·exact lv b q2
   ·refine aK (X.ls.live c b q) λ o e=>?_
    exact⟨o,kk b o q2 e⟩
 by_cases hi:i<items.length
 ·have hv:items[i]?=some items[i]:=kH hi
  rw[List.drop_eq_getElem_cons hi] at w
  refine bV w λ hc w=>?_
  generalize items[i]=v at hv w
  refine it.vW (M2:=λ v=>assign (.Name z px) (compEnvC scope (dA env scope.names []) Cx env) v) oa.hh X.st X.ls.rel (λ b q=>X.ls.own b (hI b q)) hc hv λ x h1 tk rx ye k1=>?_
  have L1:=XQ (tk:=tk) k1 λ b q=>it.live ye b q
  refine wpAny_assign_Name (wpAny_storeName_local (lookup_relabel_local ok.lo) (X.ns.at' λ o e=>k1 _ o xP.2 e) (λ h2 IS Ag=>?_) (by simp[compEnvC,relabel,ok.kd]))
  have k2:∀b o,b≠Cx->h1.get? b=some o->h2.get? b=some o:=λ b o n e=>(Ag.2 b n).trans e
  have L2:=L1.turn c R r (h':=h2) (tk:=tk+1) (λ b o n e=>k2 b o (λ q=>n (q ▸ xP.1)) e) (λ b q=>by
   by_cases q2:b=Cx
   ·subst q2;refine im IS λ o u0 u0 e u0=>?_;exact⟨o,e⟩
   ·refine aK (L1.live c b q) λ o e=>?_;exact⟨o,k2 b o q2 e⟩)
  have We:St (i+1) h2:=it.keep ye (λ b o q e=>k2 b o (λ q2=>by
   subst q2
   rcases q with q|q
   ·exact xP.2 q
   ·refine aK ((hW _ q).2 _ hc) λ es e2=>?_
    exact X.ls.own _ xP.1 (.inl ⟨_,e2⟩)) e) (vV zC Ag)
  have d2:h2.get? D=some (dF ys nD):=k2 D _ M0 (k1 D _ hD.2 X.d)
  have t2:gQ Z' σ.heap h2:=cy (I:=I') c.nt λ b o n e=>k2 b o (λ q=>n (q ▸ xP.1)) (k1 b o (λ q=>n (hI b q)) e)
  have rf:eD (B.with Z') Hi h2 (compEnvC scope (dA env scope.names []) Cx env) ((z,bp)::ρ) (fr.set bp (some v)):=
   L2.Ai.comp hs ok IS (if_pos rfl) (rx.bx (vV zC Ag)) ⟨L2.live c _ xP.1,L2.own _ xP.1,c.OL R _ xP.1⟩ λ x e=>c.new _ xP.1 (r.ow _ (.inr ⟨x,e⟩)).1
  have SH:(compEnvC scope (dA env scope.names []) Cx env).scope=oK scope sc:=zf r.fk hs
  refine cW (Dp hC oa SH rf L2.rel w) (λ b s3 hP=>?_) λ u0 u0 f=>f.elim
  refine ik hP λ H3 R3 S3 w=>?_
  have L3:=L2.body c R rD S3 R3 (L2.Ai.step S3 λ u0 u0=>id)
  have XR:=L2.keep hI (λ b u0=>id) it hW hc We S3
  have d3:s3.heap.get? D=some (dF ys nD):=S3.keep D _ d2 (L2.own _ hD.1) id
  have n3:∃m,s3.heap.Ns Cx m:=⟨_,IS.at' λ o e=>S3.keep Cx o e (L2.own _ xP.1) id⟩
  have OI:cx Z' s3.heap acc ys.toList:=(X.rv.bx t2).bx S3.grow.bx
  refine aK n3 λ m3 n3=>?_
  cases b with
  |false=>
   rw[if_neg kX]
   exact⟨items.length+1-(i+1),SP X.k (Nat.le_of_lt hi),i+1,H3,acc,ys,nD,m3,rfl,hi,XR,L3,d3,OI,Nat.le_succ_of_le X.al,n3,w⟩
  |true=>
   rw[if_pos rfl]
   have XS:=rf.step S3 λ u0 u0=>id
   refine cW (hE _ _ _ _ _ _ oa SH XS R3 w) (λ x s4 hP=>?_) λ u0 u0 f=>f.elim
   refine lk hP λ v4 H4 XT R4 S4 w=>?_
   have L4:=L3.body c R rD S4 R4 (L3.Ai.step S4 λ u0 u0=>id)
   have d4:s4.heap.get? D=some (dF ys nD):=S4.keep D _ d3 (L3.own _ hD.1) id
   have SJ:=S3.both L2.rel S4
   have O0:=L2.keep hI (λ b u0=>id) it hW hc We SJ
   have n4:s4.heap.Ns Cx m3:=n3.at' λ o e=>S4.keep Cx o e (L3.own _ xP.1) id
   have XU:acc.length=ys.size:=by have:=X.rv.length;simpa using this
   refine call_meets F.slot_list_append ⟨_,d4,rfl⟩ F.entry_list_append (F.args_list_append_2 _ _) (list_append D ys nD _ (Tm (cV (bw XU.symm) X.al) hi cT)) ⟨d4,?_⟩
   have e5:=IsL.update (n:=nD) d4 (λ xs=>xs.push x)
   have k5:∀b o,b≠D->s4.heap.get? b=some o->(s4.heap.update D (Obj.mapSeq (λ xs=>xs.push x))).get? b=some o:=λ b o n e=>(Heap.get?_update_other _ _ (Ne.symm n)).trans e
   have L5:=L4.turn c R r (h':=s4.heap.update D (Obj.mapSeq (λ xs=>xs.push x))) (tk:=s4.toks) (λ b o n e=>k5 b o (λ q=>n (q ▸ hD.1)) e) (λ b q=>by
    by_cases q2:b=D
    ·subst q2;exact⟨_,e5⟩
    ·refine aK (L4.live c b q) λ o e=>?_;exact⟨o,k5 b o q2 e⟩)
   have t5:gQ Z' s4.heap (s4.heap.update D (Obj.mapSeq (λ xs=>xs.push x))):=cy (I:=one D) (λ b e=>e ▸ zD) λ b o n e=>k5 b o n e
   refine⟨items.length+1-(i+1),SP X.k (Nat.le_of_lt hi),i+1,H4,acc++[v4],ys.push x,_,m3,rfl,hi,it.keep O0 (λ b o q e=>k5 b o (λ q2=>by
    subst q2
    rcases q with q|q
    ·exact hD.2 q
    ·refine aK ((hW _ q).2 _ hc) λ es e2=>?_
     exact X.ls.own _ hD.1 (.inl ⟨_,e2⟩)) e) t5,L5,e5,?_,by rw[eQ];exact jj X.al,n4.at' λ o e=>k5 _ o (Ne.symm M0) e,w⟩
   rw[Array.toList_push]
   exact((OI.bx S4.grow.bx).bx t5).append (.cons (XT.bx t5) .nil)
 ·have e:i=items.length:=dP X.le (Nat.not_lt.mp hi)
  subst e
  rw[List.drop_of_length_le (bE _)] at w
  refine bV w λ hc w=>?_
  refine it.vX oa.hh X.st X.ls.rel (λ b q=>X.ls.own b (hI b q)) hc λ h1 tk k1=>?_
  have c1:LC B (λ b=>B.Z b\/(b=D\/b=Cx)) (λ b=>b=D\/b=Cx) s:=⟨λ b=> .inl,λ b=> .inr,λ b=>id,λ b e=>c.new b (e.elim (λ e=>e ▸ hD.1) λ e=>e ▸ xP.1)⟩
  have c2:LC B (λ b=>B.Z b\/b=Cx) (one Cx) s:=⟨λ b=> .inl,λ b=> .inr,λ b=>id,λ b e=>c.new b (e ▸ xP.1)⟩
  have L1:=X.ls.shrink c c1 R r (J:=I) (h':=h1) (tk:=tk) hI (λ b e=>e.elim (λ e=>e ▸ hD) λ e=>e ▸ xP) k1
  have L2:=L1.shrink c1 c2 R r (J:=bH) (h':=h1) (tk:=tk) (λ u0=>False.elim) (λ b e=>⟨.inr e,id⟩) λ u0 u0 u0 e=>e
  have t1:gQ Z' σ.heap h1:=cy (I:=I) (λ b i=>c.nt b (hI b i)) k1
  exact aY _ _ _ _ _ _ L2 (L1.own D (.inl rfl)) (k1 D _ hD.2 X.d) ((X.rv.bx t1).less λ b z u0=>z.elim (c.sub b) λ e=>e ▸ zC) X.al (X.ns.at' λ o e=>k1 _ o xP.2 e) w
end
section
variable {B : Base} {n : Nat} {C : CS} {sc scope : Scope} {ρ : fS} {ro rb ks : Bool} {A : Around} {H NC : Mine.H} {s aW : Shared} {env : Env} {fr : Mine.Fr} {z : Str} {bp : Nat} {Q : V -> Mine.H -> Prop}
theorem LS.behind{Z' I:Nat->Prop}(R:Rel B H s.heap)(S:Step B.Z bH ro H s NC aW)(L:LS B Z' I bH ro NC aW env ρ fr Hi σ):LS B Z' I bH ro H s env ρ fr Hi σ:=
 ⟨L.rel,L.Ai,S.both R L.step,L.own⟩
set_option tactic.hygienic true in
theorem w9 {H : Mine.H} {D b : Nat} (q : j5 (aC H D (.list l)) h b) : b = D \/ j5 H h b := by
  rcases q with ⟨O, e⟩ | ⟨a, ⟨c, fs, e⟩, d⟩
  · unfold aC at e
    split at e
    · rename_i q; exact .inl q
    · exact .inr (.inl ⟨O, e⟩)
  · unfold aC at e
    split at e
    · cases e
    · exact .inr (.inr ⟨a, ⟨c, fs, e⟩, d⟩)
theorem LS.adopt{Z' I:Nat->Prop}{D nD:Nat}(R:Rel B H s.heap)(r:eD B H s.heap env ρ fr)(L:LS B Z' I bH ro H s env ρ fr Hi σ)(od:¬j5 Hi σ.heap D)(h0:¬aR B.h₀ D/\3<D)(nl:¬aR s.heap D)(hI:¬I D)
  (hd:σ.heap.get? D=some (dF ys nD))(hl:l.length<=aZ)(rv:cx Z' σ.heap l ys.toList):Hi D=none/\LS B Z' I bH ro H s env ρ fr (aC Hi D (.list l)) σ:=by
 refine bV (L.rel.adopt (O:=.list l) od h0 (.list hd hl rv) λ u0 u0=>nofun) λ hn R'=>?_
 refine⟨hn,R',{L.Ai with ow:=λ b f=>?_},L.step.adopt nl λ u0 u0=>nofun,λ b i q=>?_⟩
 ·refine fy (L.Ai.ow b f) λ a b' c=>?_
  exact⟨a,λ q=>(w9 q).elim (λ e=>nl (e ▸ (r.ow b f).1)) b',c⟩
 ·exact(w9 q).elim (λ e=>hI (e ▸ i)) (L.own b i)
theorem vY{cond:Es}{px pos:Pos}{use:Option (Value->Sem Unit)}{Qv:Value->Shared->Prop}
  (ok:nZ scope sc ρ z bp)(LD:SI B n C sc ρ ro it mJ)(hE:∀Z',SE (B.with Z') n C (oK scope sc) ((z,bp)::ρ) rb gy y)(hC:∀Z',rK (ST (B.with Z') n C (oK scope sc) ((z,bp)::ρ) rb) cond AG)
  (LF:MZ it (.Name z px))(rD:ro=true->rb=true)(LG:yd it=true->rb=true)
  (oa:j6 n A)(hs:env.scope=sc)(r:eD B H s.heap env ρ fr)(R:Rel B H s.heap)(hw:wE C (.comp gy bp it cond) fr Q H)
  (aY:∀D Cx H' σ m,LS B (λ b=>B.Z b\/b=Cx) (one Cx) bH ro H s env ρ fr H' σ->LC B (λ b=>B.Z b\/b=Cx) (one Cx) s->RV (λ b=>B.Z b\/b=Cx) σ.heap (.ref D) (.ref D)->Q (.ref D) H'->σ.heap.Ns Cx m->compPost (model B.prog B.w) A dq use Qv (.ref D) Cx (.ok .next) σ):
  wpAny (model B.prog B.w) A (eval mJ env) (λ x aW=>wpAny (model B.prog B.w) A (pyIter x) (λ sF oI=>wpAny (model B.prog B.w) A (newList []) (λ acc NB=>
   wpAny (model B.prog B.w) A (newFunctionEnv scope env.globals (dA env scope.names []) [] env.qual none .none (some env)) (λ Qf U8=>
    codeAny (model B.prog B.w) A (.compStart (.ListComp y [⟨.Name z px,mJ,AG,0⟩] scope pos) 0 sF acc {Qf with scope:=relabel scope env}) (compPost (model B.prog B.w) A dq use Qv acc Qf.locals) U8) dq NB) dq oI) dq aW) dq s:=by
 have hL:aZ=1000000:=rfl
 refine cW (LD (tgt:=.Name z px) (ks:=rb) _ _ _ _ _ _ oa hs r R LF LG hw) (λ x aW h=>cW h (λ sF s2 h=>?_) λ u0 u0 x=>x) λ u0 u0 x=>x
 obtain⟨H1,s1,R1,S1,I,W,items,dG,hI,kk,Gi,hW,cT,mk,hw⟩:=h
 have r1:=r.go S1
 refine wpAny_newObj_type (wpAny_newFunctionEnv ok.nc (by intro y hy;simp at hy) (λ h1 Jq Jr=>?_) ok.kd)
 dsimp only at Jq Jr⊢
 generalize TD:s2.heap.push {cls:=.type "list",dict:=none,data:=.seq ([]:List Value).toArray}=H2 at Jq Jr⊢
 have hsz:H2.objs.size=s2.heap.objs.size+1:=by rw[←TD,Heap.size_push]
 generalize hD:s2.heap.objs.size=D at*
 generalize xP:H2.objs.size=Cx at*
 have M0:D≠Cx:=by rw[hsz];exact Nat.ne_of_lt (Nat.lt_succ_self _)
 have nl:∀b,D<=b->¬aR s2.heap b:=λ b e=>bW (hD ▸ e)
 have TF:=nl D (bE _)
 have SK:=nl Cx (by rw[hsz];exact Nat.le_succ _)
 have k2:∀b o,s2.heap.get? b=some o->h1.get? b=some o:=λ b o e=>
  Jr.extBut b o (λ q=>SK (q ▸ ⟨o,e⟩)) (pk b o (by rw[←TD];exact pk b o e))
 have kl:∀{b},aR s1.heap b->aR s2.heap b:=λ hP=>by refine aK hP λ o e=>?_;exact⟨o,kk _ o e⟩
 have d1:h1.get? D=some (dF #[] 0):=Jr.extBut D _ M0 (pk _ _ (by rw[←TD,←hD];exact fW _ rfl))
 have Pe:∀b,I b->¬(b=D\/b=Cx):=λ b i e=>e.elim (λ e=>TF (e ▸ (hI b i).2)) λ e=>SK (e ▸ (hI b i).2)
 have c:LC B (λ b=>B.Z b\/(I b\/(b=D\/b=Cx))) (λ b=>I b\/(b=D\/b=Cx)) s1:=⟨λ b=> .inl,λ b=> .inr,λ b=>id,λ b e l=>e.elim (λ i=>(hI b i).1 l) λ e=>e.elim (λ e=>TF (e ▸ kl l)) λ e=>SK (e ▸ kl l)⟩
 refine aG (mk (λ b=>B.Z b\/(I b\/(b=D\/b=Cx))) (λ b i=> .inr (.inl i)) λ b z l=>z.imp id λ z=>z.elim id λ e=>e.elim (λ e=>(TF (e ▸ l)).elim) λ e=>(SK (e ▸ l)).elim) λ St LH st=>?_
 have XV:∀b o,s1.heap.get? b=some o->h1.get? b=some o:=λ b o e=>k2 b o (kk b o e)
 have L1:LS B (λ b=>B.Z b\/(I b\/(b=D\/b=Cx))) (λ b=>I b\/(b=D\/b=Cx)) bH ro H1 s1 env ρ fr H1 {s2 with heap:=h1,toks:=s2.toks+([]:List (Str×Value)).length}:=by
  refine LS.start R1 r1 ?_ XV c λ b e=>?_
  ·refine gN Gi λ h' tk ak=>?_;obtain rfl:=ak
   exact⟨h1,_,rfl⟩
  ·rcases e with i|rfl|rfl
   ·refine aK ((hI b i).2) λ o e=>?_;exact⟨o,k2 b o e⟩
   ·exact⟨_,d1⟩
   ·refine im Jq λ o u0 u0 e u0=>?_;exact⟨o,e⟩
 have ye:St 0 h1:=LH.keep st (λ b o u0 e=>k2 b o e) (dX.keeps k2).bx
 have loop:∀σ:Shared,σ={s2 with heap:=h1,toks:=s2.toks+([]:List (Str×Value)).length}->
   codeAny (model B.prog B.w) A (.compLoop (.ListComp y [⟨.Name z px,mJ,AG,0⟩] scope pos) 0 sF (.ref D) (compEnvC scope (dA env scope.names []) Cx env)) (compPost (model B.prog B.w) A dq use Qv (.ref D) Cx) σ:=by
  rintro σ rfl
  refine ER ok (hE _) (hC _) oa hs R1 r1 rD c LH cT (λ b=> .inl) ⟨.inr (.inl rfl),λ i=>Pe D i (.inl rfl)⟩ ⟨.inr (.inr rfl),λ i=>Pe Cx i (.inr rfl)⟩ M0 hW (Kf:=λ l h=>iL l Q h) (λ Hi acc ys nD m σ L od hd rv al ns q=>?_)
   (k₀:=items.length+1) ⟨rfl,dz _,ye,L1,d1,.nil,bE _,Jq,?_⟩
  ·unfold FN iL at q
   have dl:aR σ.heap D:=⟨_,hd⟩
   have n0:=R1.new kk (bw hD)
   have n1:¬aR B.h₀ D/\3<D:=⟨c.OL R1 D (.inr (.inl rfl)),n0.2⟩
   refine bV (L.adopt R1 r1 od n1 n0.1 M0 hd (Nat.le_of_lt q.1) rv) λ hn L'=>?_
   exact aY D Cx _ σ m (L'.behind R S1) ⟨λ b=> .inl,λ b=> .inr,λ b=>id,λ b e l=>c.new b (.inr (.inr e)) (S1.live b l)⟩ (.ref dl λ z=>z.elim (λ z=>n0.1 (R1.zl D z).1) M0) (fg q.2 _ hn) ns
  ·unfold LM dY at hw;exact hw
 exact codeAny_compStart_list (loop _ rfl) (LH.self (s:={s2 with heap:=h1,toks:=_}) ye (loop _ rfl))
end
section
variable {B : Base} {n : Nat} {C : CS} {sc scope : Scope} {ρ : fS} {ro rb ks : Bool} {A : Around} {H NC : Mine.H} {s aW : Shared} {env : Env} {fr : Mine.Fr} {z : Str} {bp : Nat} {Q : V -> Mine.H -> Prop}
theorem GJ{cond:Es}{px pos:Pos}
  (ok:nZ scope sc ρ z bp)(hn:fz mJ=true)(LD:SI B n C sc ρ ro it mJ)(hE:∀Z',SE (B.with Z') n C (oK scope sc) ((z,bp)::ρ) rb gy y)(hC:∀Z',rK (ST (B.with Z') n C (oK scope sc) ((z,bp)::ρ) rb) cond AG)
  (LF:MZ it (.Name z px))(rD:ro=true->rb=true)(LG:yd it=true->rb=true):SE B n C sc ρ ro (.comp gy bp it cond) (.ListComp y [⟨.Name z px,mJ,AG,0⟩] scope pos):=λ A H s env fr Q oa hs r R hw=>by
 rw[eval_ListComp]
 refine wpAny_comprehension_free (use:=none) rfl (λ x=>AX hn x) (tU (r.cellsOf hs ok)) ok.kd (λ x m e=>(ok.lc x m e).1) (vY ok LD hE hC LF rD LG oa hs r R hw λ D Cx H' σ m L c rv q ns=>?_)
 refine⟨m,ns,λ h' rC=>?_⟩
 have c0:LC B B.Z bH s:=⟨λ u0=>id,λ u0=>False.elim,λ u0=> .inl,λ u0=>False.elim⟩
 have kk:∀b o,¬one Cx b->σ.heap.get? b=some o->h'.get? b=some o:=λ b o n e=>(rC.2 b n).trans e
 have L0:=L.shrink c c0 R r (J:=one Cx) (h':=h') (tk:=σ.toks) (λ u0=>id) (λ u0=>False.elim) kk
 exact⟨.ref D,H',(rv.bx (cy (I:=one Cx) (λ b e=> .inr e) kk)).less λ b z u0=> .inl z,L0.rel,L0.step,q⟩
theorem Oh(kn:KN B)(kf:KF B)(sd:gL B n C)(hy:cg sc y=true)(hf:SA f=some y)(hx:xs.all aN=true)(rD:ro=true->f=.cv)(ih:CT B n C sc ρ ro es xs):
  SE B n C sc ρ ro (.call f es) (.Call (.Name y np) xs [] p):=λ A H s env fr Q oa hs r R hw=>
 th (Jp hs hy r R (kn.gf f y hf) (Gf (first:=[]) hx (kf.kf f) (oU R (ih _ _ _ _ _ _ _ oa hs r R hw) λ l ys H' s' rl R' S q=>⟨R'.vp,fA R S (wpAny_call (sd oa.Wd R' rl q rD λ y oB h=>h))⟩)))
theorem ES(h:eW c .cv=some f):f=.cv:=by cases c<;>first|(obtain rfl:=c8 h;rfl)|cases h
theorem Oi(kf:KF B)(sd:gL B n C)(hb:eJ o=true)(hl:(ap.endLine==p.line)=true)(cT:xs.length<20)(hx:xs.all aN=true)(rD:ro=true->m=.cv)
  (MY:SE B n C sc ρ ro e o)(ih:CT B n C sc ρ ro es xs):SE B n C sc ρ ro (.eF e m es) (.Call (.Attribute o (gz m) ap) xs [] p):=λ A H s env fr Q oa hs r R hw=>by
 refine zb hb hl cT hx λ pl=>bM R (MY _ _ _ _ _ _ oa hs r R hw) λ v x H' s' rv R' S q=>?_
 unfold Vs B7 at q
 refine E7 q λ a c fs f ak bA=>?_;obtain rfl:=ak;refine gM bA λ e1 e2 e3 q=>?_
 obtain rfl:=eI rv
 exact EE kf R' e1 e2 e3 (Gf (first:=[.ref a]) hx (kf.kf f) (oU R' (ih _ _ _ _ _ _ _ oa hs (r.go S) R' q) λ l ys H2 s2 rl R2 S2 q2=>⟨R2.vp,fA R (S.both R S2)
  (wpAny_call (sd oa.Wd R2 (.cons (rv.grow S2.grow) rl) q2 (λ h=>ES ((rD h) ▸ e3)) λ y oB h=>h))⟩))
theorem ET{a:Nat}:(Code.builtin "type.__call__" ⟨.ref a::rJ,kw⟩).weight=1:=by rfl
theorem Ib{a:Nat}:(Code.builtin "type.__call__" ⟨.ref a::rJ,kw⟩).cUnits=1:=by rfl
theorem j6.made(oa:j6 n A){a:Nat}:Tw n (A.under (.builtin "type.__call__" ⟨.ref a::rJ,kw⟩)):=
 ⟨oa.hh,by
  show A.units+(Code.builtin "type.__call__" ⟨.ref a::rJ,kw⟩).cUnits+40*n+90<cLine
  rw[Ib];have:=oa.u;exact ai [_,_,_] (Pl (Pl (Pl (Pl X0 (Nm 1)) (Ml 40 X1)) (Nm 90)) (Nm 1)) X2 1 (Pl (Pl (Pl X0 (Ml 40 X1)) (Nm 100)) (Nm 1)) X2 rfl this,by
  show A.depth+(Code.builtin "type.__call__" ⟨.ref a::rJ,kw⟩).weight+4*n+18<recursionLimit
  rw[ET];have:=oa.d;exact ai [_,_,_] (Pl (Pl (Pl (Pl X0 (Nm 1)) (Ml 4 X1)) (Nm 18)) (Nm 1)) X2 1 (Pl (Pl (Pl X0 (Ml 4 X1)) (Nm 20)) (Nm 1)) X2 rfl this⟩
theorem RC(kn:KN B)(kf:KF B)(sd:gL B n C)(hy:cg sc (Ph c)=true)(hx:xs.all aN=true)(ih:CT B n C sc ρ false es xs):
  SE B n C sc ρ false (.new c es) (.Call (.Name (Ph c) np) xs [] p):=λ A H s env fr Q oa hs r R hw=>by
 refine th (Jp hs hy r R (kn.gc c) (Gf (first:=[]) hx (kf.kc c) (oU R (ih _ _ _ _ _ _ _ oa hs r R hw) λ l ys H' s' rl R' S q=>⟨R'.vp,fA R S (wpAny_call ?_)⟩)))
 have q:=fg q
 obtain⟨h,g,d,tk,os⟩:=s'
 refine make_core (makes_of R'.vp (kf.V6 c)) (looks_findIn R'.vp (kf.V7 c)) (λ self=>bind_fn R'.vp self (eq_of_beq (kf.fn (B6 c)))) (.inl rfl) ?_
 have k:∀b o,h.get? b=some o->((h.push emptyDict).push (instObj (B.ca c) h.objs.size)).get? b=some o:=λ b o e=>pk b o (pk b o e)
 have e1:((h.push emptyDict).push (instObj (B.ca c) h.objs.size)).get? (h.objs.size+1)=some (instObj (B.ca c) h.objs.size):=by
  have:=fW (h.push emptyDict) (o:=instObj (B.ca c) h.objs.size) rfl
  rwa [Heap.size_push] at this
 have e2:((h.push emptyDict).push (instObj (B.ca c) h.objs.size)).get? h.objs.size=some (iN (([]:List DictEntry).toArray) 0):=pk _ _ (fW _ rfl)
 have hA:=R'.rI (a:=h.objs.size+1) (Nat.le_succ _)
 obtain⟨hn,R2,S2⟩:=R'.alloc (s:=⟨h,g,d,tk,os⟩) (tk:=tk) (O:=.inst c []) k hA (.inst e1 e2 .nil (dz _) (λ u0 m=>nomatch m)) (λ d' e=>by
  unfold aH at e;rw[e1] at e;injection e with e
  rw[←e]
  exact⟨bW (bE _),Nat.ne_of_lt (Nat.lt_succ_self _)⟩)
 have q1:=q _ hn
 refine sd (ro:=false) oa.made R2 (.cons (.ref ⟨_,e1⟩ (R'.ql hA.1)) (rl.grow S2.grow)) q1 nofun λ y oB hP=>?_
 refine lk hP λ v H3 rv R3 S3 q3=>?_
 unfold LN oL at q3
 cases v with
 |none=>obtain rfl:=eX rv;exact⟨rfl,.ref (h.objs.size+1),H3,.ref (S3.live _ ⟨_,e1⟩) (R'.ql hA.1),R3,(S2.weaken λ u0=>rfl).both R' S3,q3⟩
 |_=>exact q3.elim
end
noncomputable abbrev jT(h:Heap)(z TI TO T:Nat)(fb:Bool):Prop:=h.get? z=some {cls:=.type "zip",dict:=none,data:=.fields #[rawInt T,.bool fb,.bool false,.ref TI,.ref TO],slots:=#[]}
section
variable {prog : Program} {w : World} {A : Around} {E : Value -> Shared -> Prop} {s : Shared}
theorem K9{a:Nat}{Q:Option Obj->Shared->Prop}(h:Q (s.heap.get? a) s):wpAny M A (loadIfAlive a) Q E s:=λ Γ p u0=>by
 unfold loadIfAlive
 rw[Sem.wp_loadIfAlive]
 exact h
theorem GK{Q:Bool->Shared->Prop}(hz:jT s.heap z TI TO T fb)(hT:aR s.heap T)(hQ:∀h',jT h' z TI TO T true->Heap.SameBut z s.heap h'->Q false {s with heap:=h'}):
  wpAny (model prog w) A (Builtin.SmallTypes.ownedTupleIsFree (.ref z)) Q E s:=by
 refine aK hT λ o hT=>?_
 unfold Builtin.SmallTypes.ownedTupleIsFree
 refine aq (wpAny_field hz rfl (x:=rawInt T) rfl ?_)
 unfold rawInt
 dsimp only
 refine aq (K9 ?_)
 rw[Int.toNat_natCast,hT]
 simp only[Option.isNone_some,Bool.false_eq_true,if_false]
 refine aq (wpAny_field hz rfl (x:=.bool fb) rfl ?_)
 cases fb with
 |true=>
  simp only[bne_self_eq_false,Bool.false_eq_true,if_false]
  exact a8 (hQ s.heap hz (.refl _ _))
 |false=>
  rw[if_pos (by decide)]
  refine aq (wpAny_setField_rec hz (by simp) λ h1 XW E9=>a8 (hQ h1 XW E9))
theorem EU{z TI TO T i1 i2 l1 l2:Addr}{Q:Value->Shared->Prop}(D:ZipApart z TI TO i1 i2 l1 l2)
  (hz:jT s.heap z TI TO T fb)(hT:aR s.heap T)(oC:IsPair s.heap TI (.ref i1) (.ref i2))
  (h1:aP ka s.heap i1 l1 k1)(h2:aP kb s.heap i2 l2 k2)(rV:SeqAt ka s.heap l1 xs)(qs:SeqAt kb s.heap l2 ys)(hx:xs[k1]?=some x)(hy:ys[k2]?=some y)
  (hQ:∀h',jT h' z TI TO T true->aP ka h' i1 l1 (k1+1)->aP kb h' i2 l2 (k2+1)->IsPair h' s.heap.objs.size x y->
   (∀c o,c≠z->c≠i1->c≠i2->s.heap.get? c=some o->h'.get? c=some o)->Q (.ref s.heap.objs.size) {s with heap:=h'}):
  wpAny (model prog w) A (Builtin.«zip.__next__» ⟨[.ref z],[]⟩) (λ aY s'=>∃v,aY=.done (.ret v)/\Q v s') E s:=by
 show wpAny _ _ (field (.ref z) 2>>=_) _ _ _
 refine aq (wpAny_field hz rfl (x:=.bool false) rfl ?_)
 show wpAny _ _ (field (.ref z) 3>>=_) _ _ _
 refine aq (wpAny_field hz rfl (x:=.ref TI) rfl ?_)
 refine aq (wpAny_seqItems oC rfl ?_)
 show wpAny _ _ (Builtin.SmallTypes.ownedTupleIsFree (.ref z)>>=_) _ _ _
 refine aq (GK hz hT λ bB lF cD=>?_)
 simp only[Bool.false_eq_true,if_false]
 simp only[List.forIn_toArray,List.forIn_cons,List.forIn_nil]
 refine aq (aq (aq (wpAny_holding ?_)))
 show wpAny _ _ (Builtin.SmallTypes.nextOf (.ref i1)>>=_) _ _ _
 refine aq (c5 (h1.extBut cD.extBut D.i1z) (rV.extBut cD.extBut D.l1z) hx λ cN yD dw=>a8 (a8 ?_))
 refine aq (aq (wpAny_holding ?_))
 show wpAny _ _ (Builtin.SmallTypes.nextOf (.ref i2)>>=_) _ _ _
 refine aq (c5 ((h2.extBut cD.extBut D.i2z).extBut dw.extBut D.i12.symm) ((qs.extBut cD.extBut D.l2z).extBut dw.extBut D.l2i1) hy λ k8 Ga ig=>a8 (a8 (a8 ?_)))
 refine aq (wpAny_newTuple (hsz:=by show 2<=sizeLine;decide) (a8 ⟨_,rfl,?_⟩))
 have hsz:k8.objs.size=s.heap.objs.size:=by rw[ig.1,dw.1,cD.1]
 have Pg:IsPair (k8.push {cls:=.type "tuple",data:=.seq #[x,y]}) s.heap.objs.size x y:=by rw[←hsz];exact fW _ rfl
 show Q (.ref k8.objs.size) _
 rw[hsz]
 exact hQ _ (pk _ _ (ig.extBut _ _ D.i2z.symm (dw.extBut _ _ D.i1z.symm lF))) ((yD.extBut ig.extBut D.i12).at' λ o e=>pk _ o e) (Ga.at' λ o e=>pk _ o e) Pg λ c o c1 c2 c3 e=>
  pk _ _ (ig.extBut _ _ c3 (dw.extBut _ _ c2 (cD.extBut _ _ c1 e)))
theorem Ic{z TI TO T i1 i2 l1 l2:Addr}{Q:Fin->Shared->Prop}(hh:A.handled=none)(D:ZipApart z TI TO i1 i2 l1 l2)
  (hz:jT s.heap z TI TO T fb)(hT:aR s.heap T)(oC:IsPair s.heap TI (.ref i1) (.ref i2))
  (h1:aP ka s.heap i1 l1 k1)(h2:aP kb s.heap i2 l2 k2)(rV:SeqAt ka s.heap l1 xs)(qs:SeqAt kb s.heap l2 ys)(Ax:xs[k1]?=none\/ys[k2]?=none)
  (hE:∀h' e,(∀c o,c≠z->c≠i1->c≠i2->s.heap.get? c=some o->h'.get? c=some o)->(∃o,h'.get? e=some o/\o.cls=.type "StopIteration")->E (.ref e) {s with heap:=h'}):
  wpAny (model prog w) A (Builtin.«zip.__next__» ⟨[.ref z],[]⟩) Q E s:=by
 show wpAny _ _ (field (.ref z) 2>>=_) _ _ _
 refine aq (wpAny_field hz rfl (x:=.bool false) rfl ?_)
 show wpAny _ _ (field (.ref z) 3>>=_) _ _ _
 refine aq (wpAny_field hz rfl (x:=.ref TI) rfl ?_)
 refine aq (wpAny_seqItems oC rfl ?_)
 show wpAny _ _ (Builtin.SmallTypes.ownedTupleIsFree (.ref z)>>=_) _ _ _
 refine aq (GK hz hT λ bB lF cD=>?_)
 simp only[Bool.false_eq_true,if_false]
 simp only[List.forIn_toArray,List.forIn_cons,List.forIn_nil]
 refine aq (aq (aq (wpAny_holding ?_)))
 show wpAny _ _ (Builtin.SmallTypes.nextOf (.ref i1)>>=_) _ _ _
 cases hx:xs[k1]? with
 |none=>
  exact aq (fK hh (h1.extBut cD.extBut D.i1z) (rV.extBut cD.extBut D.l1z) hx λ cN e dw he=>hE cN e (λ c o c1 c2 c3 x=>dw _ _ c2 (cD.extBut _ _ c1 x)) he)
 |some x=>
  have hy:ys[k2]?=none:=by rcases Ax with h|h;rw[hx] at h;exact AB h;exact h
  refine aq (c5 (h1.extBut cD.extBut D.i1z) (rV.extBut cD.extBut D.l1z) hx λ cN yD dw=>a8 (a8 ?_))
  refine aq (aq (wpAny_holding ?_))
  show wpAny _ _ (Builtin.SmallTypes.nextOf (.ref i2)>>=_) _ _ _
  exact aq (fK hh ((h2.extBut cD.extBut D.i2z).extBut dw.extBut D.i12.symm) ((qs.extBut cD.extBut D.l2z).extBut dw.extBut D.l2i1) hy λ k8 e ig he=>
   hE k8 e (λ c o c1 c2 c3 x=>ig _ _ c3 (dw.extBut _ _ c2 (cD.extBut _ _ c1 x))) he)
theorem EV{z TI TO T i1 i2 l1 l2:Addr}{Q:Option Value->Shared->Prop}(D:ZipApart z TI TO i1 i2 l1 l2)
  (hz:jT s.heap z TI TO T fb)(hT:aR s.heap T)(oC:IsPair s.heap TI (.ref i1) (.ref i2))
  (h1:aP ka s.heap i1 l1 k1)(h2:aP kb s.heap i2 l2 k2)(rV:SeqAt ka s.heap l1 xs)(qs:SeqAt kb s.heap l2 ys)(hx:xs[k1]?=some x)(hy:ys[k2]?=some y)
  (hQ:∀h',jT h' z TI TO T true->aP ka h' i1 l1 (k1+1)->aP kb h' i2 l2 (k2+1)->IsPair h' s.heap.objs.size x y->
   (∀c o,c≠z->c≠i1->c≠i2->s.heap.get? c=some o->h'.get? c=some o)->Q (some (.ref s.heap.objs.size)) {s with heap:=h'}):
  wpAny (model prog w) A (pyNext (.ref z)) Q E s:=by
 have Pk:s.TypeIs (.ref z) "zip":=⟨_,hz,rfl⟩
 unfold pyNext
 exact aq (wpAny_attempt (wpAny_callSpecial?_slot (name:=Str.ofString "__next__") Pk F.slot_zip_next
  (wpAny_call_entry F.slot_zip_next Pk F.entry_zip_next
   (EU D hz hT oC h1 h2 rV qs hx hy λ h' a1 a3 a4 a5 a7=>a8 (hQ h' a1 a3 a4 a5 a7)) (F.args_zip_next_1 _))))
theorem EW{z TI TO T i1 i2 l1 l2:Addr}{Q:Option Value->Shared->Prop}(hh:A.handled=none)(D:ZipApart z TI TO i1 i2 l1 l2)
  (hz:jT s.heap z TI TO T fb)(hT:aR s.heap T)(oC:IsPair s.heap TI (.ref i1) (.ref i2))
  (h1:aP ka s.heap i1 l1 k1)(h2:aP kb s.heap i2 l2 k2)(rV:SeqAt ka s.heap l1 xs)(qs:SeqAt kb s.heap l2 ys)(Ax:xs[k1]?=none\/ys[k2]?=none)
  (hQ:∀h',(∀c o,c≠z->c≠i1->c≠i2->s.heap.get? c=some o->h'.get? c=some o)->Q none {s with heap:=h'}):wpAny (model prog w) A (pyNext (.ref z)) Q E s:=by
 have Pk:s.TypeIs (.ref z) "zip":=⟨_,hz,rfl⟩
 unfold pyNext
 refine aq (wpAny_attempt (wpAny_callSpecial?_slot (name:=Str.ofString "__next__") Pk F.slot_zip_next
  (wpAny_call_entry F.slot_zip_next Pk F.entry_zip_next (Ic hh D hz hT oC h1 h2 rV qs Ax λ h' e hk he=>?_) (F.args_zip_next_1 _))))
 refine aG he λ o ho hc=>?_
 refine aq (wpAny_isInstance (T:="StopIteration") (b:=true) ⟨o,ho,hc⟩ isSubtype_stop ?_)
 exact a8 (hQ _ hk)
end
noncomputable def GL(Z':Nat->Prop)(ka kb:Kd)(z TI TO i1 i2 l1 l2:Nat)(x y:List V)(i:Nat)(h:Heap):Prop:=
 ((i=0/\IsZip h z TI TO .none)\/∃T fb,jT h z TI TO T fb/\aR h T/\¬Z' T)/\IsPair h TI (.ref i1) (.ref i2)/\(∃a b,IsPair h TO a b)/\aP ka h i1 l1 i/\aP kb h i2 l2 i/\gO Z' h ka l1 x/\gO Z' h kb l2 y
section
variable {B : Base} {Z' : Nat -> Prop} {H : Mine.H} {h h' : Heap} {s : Shared} {A : Around} {E : Value -> Shared -> Prop}
theorem Iter.U9{z TI TO i1 i2 l1 l2:Nat}{c d:Mine.H->Prop}{pos:Pos}(D:ZipApart z TI TO i1 i2 l1 l2)(hZ:∀b,qm z TO i1 i2 b->Z' b)(oC:¬Z' TI)
  (sx:Src v ka l1 x c)(sy:Src w kb l2 y d):
  Iter B Z' (.Name n pos) (.ref z) (qm z TO i1 i2) bH (iQ x y) (λ H=>c H/\d H) (GL Z' ka kb z TI TO i1 i2 l1 l2 x y) where
 live:=λ st b q=>by
  refine Vj st λ hz u0 ak h1 h2 u0=>?_;refine gN ak λ u0 u0 nu=>?_
  rcases q with rfl|rfl|rfl|rfl
  ·rcases hz with⟨_,hz⟩|⟨_,_,hz,_⟩<;>exact⟨_,hz⟩
  ·exact⟨_,nu⟩
  ·exact h1.live
  ·exact h2.live
 iz:=hZ
 keep:=λ st k t=>by
  refine Oy st λ hz yc ak h1 h2 s1 s2=>?_;refine gN ak λ a b nu=>?_
  refine⟨?_,t.tup _ _ yc (f6 _ _) oC,⟨a,b,k _ _ (.inl (.inr (.inl rfl))) nu⟩,h1.at' λ o e=>k _ o (.inl (.inr (.inr (.inl rfl)))) e,h2.at' λ o e=>k _ o (.inl (.inr (.inr (.inr rfl)))) e,s1.bx t,s2.bx t⟩
  rcases hz with⟨e,hz⟩|⟨T,fb,hz,hT,nT⟩
  ·exact .inl ⟨e,k _ _ (.inl (.inl rfl)) hz⟩
  ·exact .inr ⟨T,fb,k _ _ (.inl (.inl rfl)) hz,t.live T hT nT,nT⟩
 item:=λ{A H s i v Q E} oa st R no hc hv hQ=>by
  refine nQ (y9 hv) λ a b ha hb ak=>?_;obtain rfl:=ak
  refine Oy st λ hz yc ak h1 h2 s1 s2=>?_;refine gN ak λ a0 b0 nu=>?_
  refine ik (sx.seq (B:=B.with Z') R hc.1 s1) λ xs q1 r1 e1=>?_
  refine ik (sy.seq (B:=B.with Z') R hc.2 s2) λ ys q2 r2 e2=>?_
  refine aG (eV r1 ha) λ p hp rp=>?_
  refine aG (eV r2 hb) λ q hq rq=>?_
  have nT:¬Z' s.heap.objs.size:=R.ql (bW (bE _))
  rcases hz with⟨rfl,hz⟩|⟨T,fb,hz,hT,TG⟩
  ·refine vP D hz yc nu h1 h2 q1 q2 hp hq λ h' a1 a2 a3 a4 a5 a6 a7=>a8 ?_
   have kk:∀b o,¬qm z TO i1 i2 b->s.heap.get? b=some o->h'.get? b=some o:=λ b o n e'=>
    a7 b o (λ q=>n (.inl q)) (λ q=>n (.inr (.inl q))) (λ q=>n (.inr (.inr (.inl q)))) (λ q=>n (.inr (.inr (.inr q)))) e'
   have tp:gQ Z' s.heap h':=cy hZ kk
   refine hQ _ h' s.toks (.tup a5 nT (by simp[aZ]) (.cons (rp.bx tp) (.cons (rq.bx tp) .nil))) ?_ kk
   exact⟨.inr ⟨_,false,a1,⟨_,a5⟩,nT⟩,tp.tup _ _ yc (f6 _ _) oC,⟨p,q,a2⟩,a3,a4,s1.bx tp,s2.bx tp⟩
  ·refine EV D hz hT yc h1 h2 q1 q2 hp hq λ h' a1 a3 a4 a5 a7=>a8 ?_
   have kk:∀b o,¬qm z TO i1 i2 b->s.heap.get? b=some o->h'.get? b=some o:=λ b o n e'=>
    a7 b o (λ q=>n (.inl q)) (λ q=>n (.inr (.inr (.inl q)))) (λ q=>n (.inr (.inr (.inr q)))) e'
   have tp:gQ Z' s.heap h':=cy hZ kk
   refine hQ _ h' s.toks (.tup a5 nT (by simp[aZ]) (.cons (rp.bx tp) (.cons (rq.bx tp) .nil))) ?_ kk
   exact⟨.inr ⟨T,true,a1,tp.live T hT TG,TG⟩,tp.tup _ _ yc (f6 _ _) oC,⟨a0,b0,a7 _ _ D.TOz D.TOi1 D.TOi2 nu⟩,a3,a4,s1.bx tp,s2.bx tp⟩
 done:=λ{A H s Q E} oa st R no hc hQ=>by
  refine Oy st λ hz yc ak h1 h2 s1 s2=>?_;refine gN ak λ a0 b0 nu=>?_
  refine ik (sx.seq (B:=B.with Z') R hc.1 s1) λ xs q1 r1 e1=>?_
  refine ik (sy.seq (B:=B.with Z') R hc.2 s2) λ ys q2 r2 e2=>?_
  rw[i3] at h1 h2
  have he:xs[min x.length y.length]?=none\/ys[min x.length y.length]?=none:=by
   by_cases q:x.length<=y.length
   ·exact .inl (Array.getElem?_eq_none (cV (bw e1) (Nat.le_min.mpr ⟨bE _,q⟩)))
   ·exact .inr (Array.getElem?_eq_none (cV (bw e2) (Nat.le_min.mpr ⟨Nat.le_of_not_le q,bE _⟩)))
  rcases hz with⟨_,hz⟩|⟨T,fb,hz,hT,TG⟩
  ·exact vQ oa D hz yc nu h1 h2 q1 q2 he λ h' k=>hQ h' s.toks λ b o n eo=>k b o (λ q=>n (.inl q)) (λ q=>n (.inr (.inl q))) (λ q=>n (.inr (.inr (.inl q)))) (λ q=>n (.inr (.inr (.inr q)))) eo
  ·exact EW oa D hz hT yc h1 h2 q1 q2 he λ h' k=>hQ h' s.toks λ b o n eo=>k b o (λ q=>n (.inl q)) (λ q=>n (.inr (.inr (.inl q)))) (λ q=>n (.inr (.inr (.inr q)))) eo
 self:=λ{i A s Q E} st q=>by
  have hT:s.TypeIs (.ref z) "zip":=by rcases st.1 with⟨_,hz⟩|⟨T,fb,hz,_⟩<;>exact⟨_,hz,rfl⟩
  refine wpAny_pyIter_slot hT F.slot_zip_iter (wpAny_call_entry F.slot_zip_iter hT F.entry_zip_iter ?_ (F.args_zip_iter_1 _))
  show wpAny _ _ (ret (.ref z)) _ _ s
  exact a8 ⟨_,rfl,"zip",_,hT,F.slot_zip_next.lookup,q⟩
end
theorem BS:typeLookup (.type "zip") "__len__"=pure none:=by rw[typeLookup_type,builtinLookup_eq_fast];kernel_rfl
theorem zZ:typeLookup (.type "zip") "__length_hint__"=pure none:=by rw[typeLookup_type,builtinLookup_eq_fast];kernel_rfl
section
variable {B : Base} {n : Nat} {ro : Bool} {A : Around} {H : Mine.H} {s : Shared} {env : Env} {ρ : fS} {fr : Mine.Fr} {Q : V -> Mine.H -> Prop}
theorem Ie{Z' I I' W:Nat->Prop}{z:Nat}{dG:Mine.H->Prop}{St:Nat->Heap->Prop}{S:Nat}{RR:Result->Shared->Prop}
  (oa:A.handled=none)(R:Rel B H s.heap)(r:eD B H s.heap env ρ fr)(c:LC B Z' I' s)(it:Iter B Z' (.Name nm px) (.ref z) I W items dG St)(cT:items.length<aZ)(hc:dG H)
  (hI:∀b,I b->I' b)(hS:I' S/\¬I S)(TH:∀b,I' b->I b\/b=S)(hW:∀b,¬W b)
  (aY:∀(ys:Array Value) (nD:Nat) (σ:Shared),LS B B.Z bH bH ro H s env ρ fr H σ->¬j5 H σ.heap S->σ.heap.get? S=some (dF ys nD)->cx B.Z σ.heap items ys.toList->RR (.ok (.ret .none)) σ):
  ∀(k i:Nat) (ys:Array Value) (nD:Nat) (σ:Shared),items.length-i=k->i<=items.length->St i σ.heap->LS B Z' I' bH ro H s env ρ fr H σ->σ.heap.get? S=some (dF ys nD)->cx Z' σ.heap (items.take i) ys.toList->
   codeAny (model B.prog B.w) A (.builtin "list.extend.loop" ⟨[.ref S,.ref z,.none],[]⟩) RR σ:=by
 have hz:sizeLine=2^24:=rfl
 have hL:aZ=1000000:=rfl
 have zS:Z' S:=c.nt _ hS.1
 intro k
 induction k with
 |zero=>
  intro i ys nD σ hk hi st L hd rv
  have e:i=items.length:=dP hi (Nat.le_of_sub_eq_zero hk)
  subst e
  refine codeAny_builtin F.entry_extend_loop ?_
  rw[Around.under_plainId F.plain_extend_loop _]
  show wpAny _ A.in1 (pyNext (.ref z)>>=_) _ _ σ
  refine aq (it.done (A:=A.in1) oa st L.rel (λ b q=>L.own b (hI b q)) hc λ h1 tk k1=>a8 ?_)
  have c1:LC B (λ b=>B.Z b\/b=S) (one S) s:=⟨λ b=> .inl,λ b=> .inr,λ b=>id,λ b e=>c.new b (e ▸ hS.1)⟩
  have c2:LC B B.Z bH s:=⟨λ u0=>id,λ u0=>False.elim,λ u0=> .inl,λ u0=>False.elim⟩
  have L1:=L.shrink c c1 R r (J:=I) (h':=h1) (tk:=tk) hI (λ b e=>e ▸ hS) k1
  have L2:=L1.shrink c1 c2 R r (J:=bH) (h':=h1) (tk:=tk) (λ u0=>False.elim) (λ b e=>e.elim) λ u0 u0 u0 e=>e
  have t1:gQ Z' σ.heap h1:=cy (I:=I) (λ b i=>c.nt b (hI b i)) k1
  rw[List.take_of_length_le (bE _)] at rv
  exact aY _ _ _ L2 (L1.own S rfl) (k1 S _ hS.2 hd) ((rv.bx t1).less λ b z u0=>c.sub b z)
 |succ k ih=>
  intro i ys nD σ hk hi st L hd rv
  have CQ:i<items.length:=Nat.lt_of_sub_eq_succ hk
  have hv:items[i]?=some items[i]:=kH CQ
  refine codeAny_builtin F.entry_extend_loop ?_
  rw[Around.under_plainId F.plain_extend_loop _]
  show wpAny _ A.in1 (pyNext (.ref z)>>=_) _ _ σ
  have XX:ys.size=min i items.length:=by have:=rv.length;rw[List.length_take] at this;exact this.symm
  refine aq (cW (it.vW (A:=A.in1) (Q0:=λ u0=>False) (M2:=λ v=>updateSeq S (·.push v)) (Q2:=λ u0 s'=>codeAny (model B.prog B.w) A (.builtin "list.extend.loop" ⟨[.ref S,.ref z,.none],[]⟩) RR s') oa st L.rel (λ b q=>L.own b (hI b q)) hc hv λ x h1 tk rx ye k1=>?_) (λ r aW h=>?_) λ u0 u0 x=>x)
  rotate_left
  ·cases r with
   |none=>exact h.elim
   |some v=>
    show wpAny _ A.in1 (updateSeq S (·.push v)>>=_) _ _ _
    exact aq (cW h (λ u0 s' h=>a8 ⟨plainId_quiet F.plain_extend_loop _,h⟩) λ u0 u0 x=>x)
  have d1:=k1 S _ hS.2 hd
  have TJ:ys.size<=i:=XX ▸ Nat.min_le_left _ _
  refine wpAny_updateSeq d1 rfl ?_ (Tm TJ CQ cT) (by rw[Array.size_push];exact jj (Tm TJ CQ cT))
  have e5:=IsL.update (n:=nD) d1 (λ xs=>xs.push x)
  have k5:∀b o,b≠S->h1.get? b=some o->(h1.update S (Obj.mapSeq (λ xs=>xs.push x))).get? b=some o:=λ b o n e=>(Heap.get?_update_other _ _ (Ne.symm n)).trans e
  have t1:gQ Z' σ.heap h1:=cy (I:=I) (λ b i=>c.nt b (hI b i)) k1
  have t5:gQ Z' h1 (h1.update S (Obj.mapSeq (λ xs=>xs.push x))):=cy (I:=one S) (λ b e=>e ▸ zS) λ b o n e=>k5 b o n e
  have k6:∀b o,¬I' b->σ.heap.get? b=some o->(h1.update S (Obj.mapSeq (λ xs=>xs.push x))).get? b=some o:=λ b o n e=>k5 b o (λ q=>n (q ▸ hS.1)) (k1 b o (λ q=>n (hI b q)) e)
  refine ih (i+1) (ys.push x) _ _ (congrArg Nat.pred hk) CQ (it.keep ye (λ b o q e=>k5 b o (λ q2=>q.elim (λ q=>hS.2 (q2 ▸ q)) (hW b)) e) t5) (L.turn c R r (h':=h1.update S (Obj.mapSeq (λ xs=>xs.push x))) (tk:=tk) k6 λ b q=>?_) e5 ?_
  ·rcases TH b q with q|rfl
   ·refine aK (it.live ye b q) λ o e=>?_
    exact⟨o,k5 b o (λ e=>hS.2 (e ▸ q)) e⟩
   ·exact⟨_,e5⟩
  ·rw[Array.toList_push,List.take_add_one,hv]
   exact((rv.bx t1).bx t5).append (.cons (rx.bx t5) .nil)
theorem La{Z' I I':Nat->Prop}{z:Nat}{dG:Mine.H->Prop}{St:Nat->Heap->Prop}{S nD:Nat}{RR:Result->Shared->Prop}
  (oa:A.handled=none)(R:Rel B H s.heap)(r:eD B H s.heap env ρ fr)(c:LC B Z' I' s)(it:Iter B Z' (.Name nm px) (.ref z) I bH items dG St)(cT:items.length<aZ)(hc:dG H)(XY:I z)
  (hI:∀b,I b->I' b)(hS:I' S/\¬I S)(TH:∀b,I' b->I b\/b=S)(ty:∀σ:Shared,St 0 σ.heap->σ.TypeIs (.ref z) "zip")
  (aY:∀(ys:Array Value) (nD:Nat) (σ:Shared),LS B B.Z bH bH ro H s env ρ fr H σ->¬j5 H σ.heap S->σ.heap.get? S=some (dF ys nD)->cx B.Z σ.heap items ys.toList->RR (.ok (.ret .none)) σ)
  (st:St 0 σ.heap)(L:LS B Z' I' bH ro H s env ρ fr H σ)(hd:σ.heap.get? S=some (dF #[] nD)):
  wpAny (model B.prog B.w) A.in1 (Builtin.«list.__init__» ⟨[.ref S,.ref z],[]⟩)
   (λ aY s'=>match aY with| .done f=>RR (.ok f) s'| .again c'=>c'.quiet=true/\codeAny (model B.prog B.w) A c' RR s') (λ e s'=>RR (.error e) s') σ:=by
 have XZ:S≠z:=λ e=>hS.2 (e ▸ XY)
 have zS:Z' S:=c.nt _ hS.1
 --S is written;all else Vi
 have up:∀{τ:Shared} {TK:Nat} (f:Array Value->Array Value),St 0 τ.heap->LS B Z' I' bH ro H s env ρ fr H τ->τ.heap.get? S=some (dF #[] TK)->f #[]=#[]->∃U',St 0 (τ.heap.update S (Obj.mapSeq f))/\LS B Z' I' bH ro H s env ρ fr H {τ with heap:=τ.heap.update S (Obj.mapSeq f)}/\(τ.heap.update S (Obj.mapSeq f)).get? S=some (dF #[] U'):=λ{τ TK} f st L hd hf=>by
  have e5:=IsL.update (n:=TK) hd f
  rw[hf] at e5
  have k5:∀b o,b≠S->τ.heap.get? b=some o->(τ.heap.update S (Obj.mapSeq f)).get? b=some o:=λ b o n e=>(Heap.get?_update_other _ _ (Ne.symm n)).trans e
  exact⟨_,it.keep st (λ b o q e=>k5 b o (λ q2=>q.elim (λ q=>hS.2 (q2 ▸ q)) id) e) (cy (I:=one S) (λ b e=>e ▸ zS) λ b o n e=>k5 b o n e),
   L.turn c R r (tk:=τ.toks) (λ b o n e=>k5 b o (λ q=>n (q ▸ hS.1)) e) (λ b q=>by
    by_cases e:b=S
    ·subst e;exact⟨_,e5⟩
    ·refine aK (L.live c b q) λ o e'=>?_;exact⟨o,k5 b o e e'⟩),e5⟩
 show wpAny _ A.in1 (do let DR←Builtin.List.listItems (.ref S);Builtin.List.listUpdate (.ref S) (λ u0=>#[]);letGo DR.toList.reverse;Builtin.List.listExtendWith (.ref S) (.ref z) .none) _ _ σ
 refine aq ?_
 unfold Builtin.List.listItems
 refine aq (wpAny_seqItems hd rfl (a8 ?_))
 show wpAny _ A.in1 (updateSeq S (λ u0=>#[])>>=λ u0=>letGo (#[]:Array Value).toList.reverse>>=λ u0=>Builtin.List.listExtendWith (.ref S) (.ref z) .none) _ _ σ
 refine aq (wpAny_updateSeq hd rfl ?_)
 refine ik (up (λ u0=>#[]) st L hd rfl) λ n1 ye L1 d1=>?_
 refine aq (wpAny_letGo ?_)
 generalize σ.heap.update S (Obj.mapSeq λ u0=>#[])=h1 at ye L1 d1⊢
 unfold Builtin.List.listExtendWith
 have hT:=ty ⟨h1,σ.gens,σ.drawn,σ.toks,σ.os⟩ ye
 refine aq (wpAny_typeOf hT ?_)
 have e1:Builtin.List.listSameRef (.ref S) (.ref z)=false:=by simp[Builtin.List.listSameRef,XZ]
 have e2:(Value.type "zip"==Value.type "list")=false:=by decide
 have e3:(Value.type "zip"==Value.type "tuple")=false:=by decide
 simp only[e1,e2,e3,Bool.or_false,Bool.false_eq_true,if_false]
 refine aq (it.self (s:=⟨h1,σ.gens,σ.drawn,σ.toks,σ.os⟩) ye ?_)
 refine aq (wpAny_holding ?_)
 unfold Builtin.List.listLengthHint
 refine aq (wpAny_specialOf hT BS ?_)
 show wpAny _ A.in1 (specialOf (Value.ref z) (Str.ofString "__length_hint__")>>=_) _ _ _
 refine aq (wpAny_specialOf hT zZ ?_)
 refine a8 ?_
 show wpAny _ A.in1 (rule "list.extend.makes-room">>=λ u0=>Builtin.List.listTouch (.ref S)>>=λ u0=>again (.builtin "list.extend.loop" ⟨[.ref S,.ref z,.none],[]⟩)) _ _ _
 refine aq (wpAny_rule ?_)
 refine aq ?_
 show wpAny _ A.in1 (updateSeq S (·.push .none)>>=λ u0=>updateSeq S (·.pop)) _ _ _
 refine aq (wpAny_updateSeq d1 rfl ?_)
 have d2:=IsL.update (n:=n1) d1 (·.push Value.none)
 refine wpAny_updateSeq (hz:=by seq_fits) d2 rfl ?_
 have d3:=IsL.update d2 (·.pop)
 have k5:∀b o,b≠S->h1.get? b=some o->((h1.update S (Obj.mapSeq (·.push Value.none))).update S (Obj.mapSeq (·.pop))).get? b=some o:=λ b o n e=>(Heap.get?_update_other _ _ (Ne.symm n)).trans ((Heap.get?_update_other _ _ (Ne.symm n)).trans e)
 refine a8 ⟨plainId_quiet F.plain_extend_loop _,?_⟩
 exact Ie oa R r c it cT hc hI hS TH (λ u0=>id) aY items.length 0 #[] _ _ rfl (dz _)
  (it.keep ye (λ b o q e=>k5 b o (λ q2=>q.elim (λ q=>hS.2 (q2 ▸ q)) id) e) (cy (I:=one S) (λ b e=>e ▸ zS) λ b o n e=>k5 b o n e))
  (L1.turn c R r (tk:=σ.toks) (λ b o n e=>k5 b o (λ q=>n (q ▸ hS.1)) e) (λ b q=>by
    by_cases e:b=S
    ·subst e;exact⟨_,d3⟩
    ·refine aK (L1.live c b q) λ o e'=>?_;exact⟨o,k5 b o e e'⟩)) d3 .nil
end
theorem Ig:(-((2:Int)^62))<=((x0:Nat):Int):=zd
theorem Ih(h0:x0<x1)(h1:x1=(1000000:Nat)):((x0:Nat):Int)<((2:Int)^62):=ze h0 h1
theorem Ii:(x0+(((x1:Nat):Int)+(1:Int)))=((x0+(1:Int))+((x1:Nat):Int)):=(Int.add_assoc _ _ _).symm.trans (Int.add_right_comm _ _ _)
theorem Ij:((0:Int)+(((x0:Nat):Int)*(1:Int)))=((0:Int)+((x0:Nat):Int)):=congrArg _ (Int.mul_one _)
section
variable {B : Base} {n : Nat} {C : CS} {sc : Scope} {ro : Bool} {A : Around} {H : Mine.H} {s : Shared} {env : Env} {ρ : fS} {fr : Mine.Fr} {Q : V -> Mine.H -> Prop} {K : List V -> (Mine.H -> Prop) -> Mine.H -> Prop}
theorem Ik(oa:A.handled=none)(rx:RV B.Z s.heap v x)(ry:RV B.Z s.heap w y)(R:Rel B H s.heap)(r:eD B H s.heap env ρ fr)(h:sK v w (λ items u0 h=>iL items Q h) H):
  wpAny (model B.prog B.w) A (call (.type "zip") [x,y]) (λ xv aW=>wpAny (model B.prog B.w) A (call (.type "list") [xv]) (PV B bH ro H s Q) dq aW) dq s:=by
 unfold sK at h
 refine Vn h λ l c m d hl hm hn IP q=>?_
 refine im (wJ rx R hl) λ ka a xs ak bA=>?_;obtain rfl:=ak;refine gM bA λ sx sq ok ch=>?_
 refine im (wJ ry R hm) λ kb b ys ak bA=>?_;obtain rfl:=ak;refine gM bA λ sy Pj TB dh=>?_
 refine vR sq Pj λ h' hz oC nu i1 i2 rC k=>?_
 have D:=vT (iI sq.live.choose_spec) (iI Pj.live.choose_spec)
 generalize hI:qm (s.heap.objs.size+4) (s.heap.objs.size+3) s.heap.objs.size (s.heap.objs.size+1)=I at*
 have nl:∀b,I b->¬aR s.heap b/\aR h' b:=λ b e=>by
  subst hI
  rcases e with rfl|rfl|rfl|rfl
  ·exact⟨bW (by exact aL [_] X0 (Pl X0 (Nm 4)) rfl),_,hz⟩
  ·exact⟨bW (by exact aL [_] X0 (Pl X0 (Nm 3)) rfl),_,nu⟩
  ·exact⟨bW (by exact aL [_] X0 X0 rfl),i1.live⟩
  ·exact⟨bW (by exact aL [_] X0 (Pl X0 (Nm 1)) rfl),i2.live⟩
 have X8:¬I (s.heap.objs.size+2):=λ e=>by subst hI;exact e.elim D.TIz λ e=>e.elim D.TITO λ e=>e.elim D.TIi1 D.TIi2
 unfold iL at q
 refine callType_codes (Q₁:=λ obj aW=>obj=.ref h'.objs.size/\aW={s with heap:=h'.push {cls:=.type "list",data:=.seq #[]}}) PySem.F.called_list (PySem.F.typeCall_list_1 _) PySem.F.entry_list_init (code_list_new _ ⟨rfl,rfl⟩) λ obj aW bB=>?_
 obtain⟨rfl,rfl⟩:=bB
 generalize hS:h'.objs.size=S at*
 have e0:(h'.push {cls:=.type "list",data:=.seq #[]}).get? S=some (dF #[] 0):=hS ▸ fW _ rfl
 have nS:¬aR h' S:=bW (bw hS)
 have k2:∀b o,s.heap.get? b=some o->(h'.push {cls:=.type "list",data:=.seq #[]}).get? b=some o:=λ b o e=>pk b o (k b o e)
 have SM:=R.new k (bw hS)
 have X9:¬I S:=λ e=>nS (nl S e).2
 have lc:LC B (λ a=>B.Z a\/(I a\/a=S)) (λ a=>I a\/a=S) s:=⟨λ u0=> .inl,λ u0=> .inr,λ u0=>id,λ b e=>e.elim (λ e=>(nl b e).1) λ e=>e ▸ SM.1⟩
 have hL:∀b,(B.Z b\/(I b\/b=S))->aR h' b->B.Z b\/I b:=λ b z l=>z.imp id λ z=>z.elim id λ e=>(nS (e ▸ l)).elim
 have it:=Iter.U9 (B:=B) (Z':=λ a=>B.Z a\/(I a\/a=S)) (n:="") (pos:=⟨0,0,0,0⟩) D (λ b e=> .inr (.inl (hI ▸ e)))
  (λ e=>(hL _ e ⟨_,oC⟩).elim (λ z=>absurd (iI (R.zl _ z).1.choose_spec) (Nat.not_lt.mpr (Nat.le_add_right _ _))) X8) sx sy
 rw[hI] at it
 have st:GL (λ a=>B.Z a\/(I a\/a=S)) ka kb (s.heap.objs.size+4) (s.heap.objs.size+2) (s.heap.objs.size+3) s.heap.objs.size (s.heap.objs.size+1) a b l m 0 (h'.push {cls:=.type "list",data:=.seq #[]}):=
  ⟨.inl ⟨rfl,pk _ _ hz⟩,pk _ _ oC,⟨_,_,pk _ _ nu⟩,i1.at' λ o=>pk _ o,i2.at' λ o=>pk _ o,(ok.less (tj k nl hL)).keeps k2,(TB.less (tj k nl hL)).keeps k2⟩
 have L:LS B (λ a=>B.Z a\/(I a\/a=S)) (λ a=>I a\/a=S) bH ro H s env ρ fr H {s with heap:=h'.push {cls:=.type "list",data:=.seq #[]}}:=
  LS.start R r ⟨_,s.toks,rfl⟩ k2 lc λ b e=>e.elim (λ e=>by obtain⟨o,e⟩:=(nl b e).2;exact⟨o,pk _ _ e⟩) λ e=>e ▸ ⟨_,e0⟩
 refine⟨⟨_,e0,rfl⟩,PySem.F.args_list_init_2 _ _,La (A:=A.in1) oa R r lc it (by rw[i3];exact cO (Nat.min_le_left _ _) hn) ⟨ch,dh⟩ (by subst hI;exact .inl rfl) (λ b=> .inl) ⟨.inr rfl,X9⟩ (λ u0=>id) (λ σ st=>?_) (λ ys nD σ L od hd rv=>?_) st L e0⟩
 ·rcases st.1 with⟨_,hz⟩|⟨T,fb,hz,_⟩<;>exact⟨_,hz,rfl⟩
 ·refine bV (L.adopt R r od ⟨lc.OL R S (.inr rfl),SM.2⟩ SM.1 id hd (Nat.le_of_lt q.1) rv) λ hn L'=>?_
  exact⟨rfl,.ref S,_,.ref ⟨_,hd⟩ (R.ql SM.1),L'.rel,L'.step,fg q.2 _ hn⟩
theorem BU(oa:A.handled=none)(rx:RV B.Z s.heap v x)(R:Rel B H s.heap)(h:nV v (λ items u0 h=>iL items Q h) H):
  wpAny (model B.prog B.w) A (call (.type "range") [x]) (λ xv aW=>wpAny (model B.prog B.w) A (call (.type "list") [xv]) (PV B bH ro H s Q) dq aW) dq s:=by
 unfold nV at h
 obtain⟨m,rfl,hn,q⟩:=h
 have hL:aZ=1000000:=rfl
 obtain⟨t,rfl⟩:=rn rx
 unfold iL at q
 rw[gx] at q
 have he:(if(0:Int)<(m:Int) then(m:Int)-0 else 0)=(m:Int):=Vo m
 refine call_range_1 (call_list_range oa (IsRange.new _ _ _ _ _ _ _) (small_one (by decide) (by decide) (by exact Ig) (by exact Ih hn hL)) (n:=m) (by rw[rangeSize_one];exact he) (by exact aS [_,_] X0 (Nm (2^24)) 1 (Pl X0 (Nm 1)) X1 1 X1 (Nm 1000000) rfl hn (bw hL)) λ h' tk acc c k ma it=>?_)
 refine mW R (by rw[gx];exact ai [_,_] X0 X1 1 (Pl X0 (Nm 1)) X1 rfl hn) (λ b o e=>k b o (pk b o e)) (R.new (λ b o=>pk b o) (bE _)) ma ?_ q.2
 have rU:∀(l:List Value) (a:Int),(∀(i:Nat) (v:Value),l[i]?=some v->∃t,v=.int (a+i) t)->cx B.Z h' (dH a l.length) l:=by
  intro l
  induction l with
  |nil=>intro a _;exact .nil
  |cons v l ih=>
   intro a hl
   obtain⟨t,e⟩:=hl 0 v rfl
   refine .cons ?_ (ih (a+1) λ i v e=>?_)
   ·rw[e];simpa using RV.int
   ·obtain⟨t,e⟩:=hl (i+1) v e
    exact⟨t,by rw[e];congr 1;push_cast;exact Ii⟩
 have:=rU acc.toList 0 λ i v e=>by
  obtain⟨t,e'⟩:=it.2 i v (by rw[←Array.getElem?_toList];exact e)
  exact⟨t,by rw[e'];congr 1;exact Ij⟩
 rw[Array.length_toList,it.1] at this
 exact this
end
theorem xK:typeLookup (.type "list") "keys"=pure none:=by rw[typeLookup_type,builtinLookup_eq_fast];kernel_rfl
theorem mz:entryFor table "dict.update.loop"=some Builtin.«dict.update.loop»:=entryFor_of_tree (by kernel_rfl)
theorem fL:plainId "dict.update.loop"=true:=by decide+kernel
theorem EX{prog:Program}{E:Value->Shared->Prop}{a k:Nat}{Q:Option Value->Shared->Prop}(hx:s.heap.get? a=some (dF xs k))(hA:A.handled=none)
  (h:∀h' tk,(∀b o,s.heap.get? b=some o->h'.get? b=some o)->Q none {s with heap:=h',toks:=tk}):wpAny (model prog w) A (getAttr? (.ref a) "keys") Q E s:=by
 obtain⟨hp,g,d,tk,os⟩:=s
 have hT:∀TL,(⟨hp,g,d,TL,os⟩:Shared).TypeIs (.ref a) "list":=λ u0=>⟨_,hx,rfl⟩
 have f1:=sub_AttributeError
 have f3:=F.slot_list_getattribute.lookup
 have f4:=F.slot_list_getattribute.bind (.ref a)
 have f5:=am_list_getattr_none
 unfold getAttr? getAttrBy? getAttrBy
 repeat (any_goals (first|assumption|exact hT _|((with_reducible show wpAny _ _ (call (Value.builtin "list.__getattribute__") _ _) _ _ _);refine call_meets F.slot_list_getattribute (hT _) am_entry_list_getattribute (F.args_list_getattribute_2 _ _) (meets_getattribute_miss_list a xs k #[] "keys" _ xK (by decide+kernel) (by decide+kernel)) ⟨hx,hA,λ h' TL e MU=>?_⟩)|wp_step))
 refine gN MU.there λ t' u' he=>?_
 show wpAny _ _ (getattributeRaised _ _ _ _ _ _ _) _ _ _
 unfold getattributeRaised
 repeat (any_goals (first|assumption|wp_step))
 exact h h' TL MU.keeps
section
variable {B : Base} {n : Nat} {ro : Bool} {A : Around} {H : Mine.H} {s : Shared} {Q : V -> Mine.H -> Prop}
theorem Il(h:c9 (v::l)=some es):∃k w tX,v=.tup [.int k,w]/\es=(k,w)::tX/\c9 l=some tX:=by
 unfold c9 at h
 refine aG (Option.bind_eq_some_iff.mp h) λ ak e1 e2=>?_;obtain⟨k,w⟩:=ak
 refine aG (Option.map_eq_some_iff.mp e2) λ tX e3 e4=>?_
 refine⟨k,w,tX,?_,e4.symm,e3⟩
 unfold Gq at e1
 split at e1
 ·cases e1;rfl
 ·cases e1
theorem Im{k:Int}(h:k∉es.map (·.1)):dT es k v=es++[(k,v)]:=by
 unfold dT
 rw[if_neg]
 rw[Bool.not_eq_true,List.any_eq_false]
 intro p hp e
 exact h (List.mem_map.mpr ⟨p,hp,by simpa using e⟩)
theorem RK.mem_keys{Z:Nat->Prop}(r:RK Z h es bY):bY.length=es.length:=RL.length r
theorem Io{a it d nx:Nat}{RR:Result->Shared->Prop}(hh:A.handled=none)(hx:s.heap.get? a=some (dF xs nx))(rv:cx B.Z s.heap jI xs.toList)(cT:jI.length<aZ)(nd:¬aR s.heap d)(ni:¬aR s.heap it)(TM:d≠it):
  ∀(l:List V) (i:Nat) (σ:Shared) (rA es:List (Int×V)) (bY:List (Int×Value)),jI.drop i=l->c9 l=some es->((rA++es).map (·.1)).Nodup->rA.length=i->(∃h' tk,σ={s with heap:=h',toks:=tk})->(∀b o,s.heap.get? b=some o->σ.heap.get? b=some o)->
   aP .list σ.heap it a i->σ.heap.DictOf (intKind B.prog B.w) d bY->RK B.Z s.heap rA bY->
   (∀FH M1,(∃h' tk,M1={s with heap:=h',toks:=tk})->(∀b o,s.heap.get? b=some o->M1.heap.get? b=some o)->M1.heap.DictOf (intKind B.prog B.w) d FH->RK B.Z s.heap (rA++es) FH->RR (.ok (.ret .none)) M1)->
   codeAny (model B.prog B.w) A (.builtin "dict.update.loop" ⟨[.ref d,.ref it,rawInt i,.none],[]⟩) RR σ:=by
 have hz:sizeLine=2^24:=rfl
 have hL:aZ=1000000:=rfl
 have hsz:jI.length=xs.size:=rv.length
 intro l
 induction l with
 |nil=>
  intro i σ rA es bY e1 e2 nd' el tX ks vq hd rk aY
  cases e2
  have hi:jI.length<=i:=by
   rcases Nat.lt_or_ge i jI.length with q|q
   ·rw[List.drop_eq_getElem_cons q] at e1;cases e1
   ·exact q
  refine codeAny_builtin mz ?_
  rw[Around.under_plainId fL _]
  show wpAny _ A.in1 (pyNext (.ref it)>>=_) _ _ σ
  refine aq (Dn (k:=.list) hh vq ⟨_,ks _ _ hx,rfl,nx,rfl⟩ (Array.getElem?_eq_none (by exact aS [_,_,_] X0 X1 1 X0 X2 1 X2 X1 rfl (bw hsz.symm) hi)) λ h1 k1=>?_)
  refine gN tX λ h' tk ak=>?_;obtain rfl:=ak
  have k2:∀b o,s.heap.get? b=some o->h1.get? b=some o:=λ b o e=>k1 b o (λ q=>ni (q ▸ ⟨o,e⟩)) (ks b o e)
  exact a8 (aY bY _ ⟨h1,_,rfl⟩ k2 (hd.extBut k1 TM) (by rw[eE];exact rk))
 |cons v l ih=>
  intro i σ rA es bY e1 e2 nd' el tX ks vq hd rk aY
  refine im (Il e2) λ k w Ya ak bA=>?_;obtain rfl:=ak;refine bV bA λ Fd e3=>?_;obtain rfl:=Fd
  have hi:i<jI.length:=by
   rcases Nat.lt_or_ge i jI.length with q|q
   ·exact q
   ·rw[List.drop_eq_nil_of_le q] at e1;cases e1
  rw[List.drop_eq_getElem_cons hi] at e1
  injection e1 with e1 e4
  have hv:jI[i]?=some (.tup [.int k,w]):=by rw[kH hi,e1]
  refine aG (eV rv hv) λ x Yb rx=>?_
  refine im (ie rx) λ t ys m ak bA=>?_;obtain rfl:=ak;refine gM bA λ ht u0 ry TJ=>?_
  obtain⟨YX,y,Yc,Yd⟩:∃tk y,ys.toList=[.int k tk,y]/\RV B.Z s.heap w y:=by
   generalize ys.toList=zs at ry
   refine fh (Jl ry) λ p q ak bA=>?_;obtain rfl:=ak;refine bV bA λ r1 r2=>?_
   refine aK (rn r1) λ tk ak=>?_;obtain rfl:=ak
   exact⟨tk,q,rfl,r2⟩
  refine gN tX λ h' tk ak=>?_;obtain rfl:=ak
  refine codeAny_builtin mz ?_
  rw[Around.under_plainId fL _]
  show wpAny _ A.in1 (pyNext (.ref it)>>=_) _ _ _
  refine aq (y8 (k:=.list) vq ⟨_,ks _ _ hx,rfl,nx,rfl⟩ Yb λ h1 Va E9=>?_)
  have k1:∀b o,b≠it->h'.get? b=some o->h1.get? b=some o:=λ b o n e=>(E9.2 b n).trans e
  have k2:∀b o,s.heap.get? b=some o->h1.get? b=some o:=λ b o e=>k1 b o (λ q=>ni (q ▸ ⟨o,e⟩)) (ks b o e)
  refine aq (wpAny_holding ?_)
  refine aq (wpAny_tryCatch ?_)
  unfold Builtin.Dict.pairItems
  refine aq (wpAny_typeOf (T:="tuple") ⟨_,k2 _ _ ht,rfl⟩ ?_)
  rw[if_pos (by decide)]
  refine aq (wpAny_seqItems (k2 _ _ ht) rfl (a8 ?_))
  show wpAny _ _ (match ys.toList with|[k,v]=>_|l=>_) _ _ _
  rw[Yc]
  refine wpAny_holding (wpAny_dictSet_pairs (k:=k) (knd:=intKind B.prog B.w) (by simp[intKind,Value.isInt]) (hd.extBut E9.extBut TM) (λ h2 Ye Ag=>?_) (by have:=rk.mem_keys;exact Po [_,_,_,_,_,_] X0 X1 1 (Pl X2 (Nm 1)) X3 1 (Nm (2^24)) X1 1 X3 (Nm 1000000) 1 X4 X5 1 (Pl X5 (Nm 1)) X2 1 X0 X4 rfl cT (bw hz.symm) (bw hL) (bw el) hi (bw this)))
  have k3:∀b o,s.heap.get? b=some o->h2.get? b=some o:=λ b o e=>(Ag.2 b (λ q=>nd (q ▸ ⟨o,e⟩))).trans (k2 b o e)
  refine a8 ⟨plainId_quiet fL _,?_⟩
  have en:k∉rA.map (·.1):=by
   intro hm
   rw[iD,List.map_cons] at nd'
   exact(List.nodup_append.mp nd').2.2 _ hm _ (.head _) rfl
  have Wf:=rk.put k Yd
  rw[Im en] at Wf
  refine ih (i+1) _ (rA++[(k,w)]) Ya (stored bY k y) e4 e3 (by rw[d6];exact nd') (by rw[eQ];exact congrArg (·+1) el) ⟨h2,_,rfl⟩ k3
   (Va.at' λ o e=>(Ag.2 it TM.symm).trans e) Ye Wf λ FH M1 a b c d=>aY FH M1 a b c (by rw[d6] at d;exact d)
theorem z9(hh:A.handled=none)(rx:RV B.Z s.heap v x)(R:Rel B H s.heap)(h:oY v Q H):wpAny (model B.prog B.w) A (call (.type "dict") [x]) (PV B bH ro H s Q) dq s:=by
 unfold oY at h
 refine im h λ a l es ak bA=>?_;obtain rfl:=ak;refine RW bA λ hl hn hp nd q=>?_
 obtain rfl:=eI rx
 refine lk (R.bS hl) λ xs nx hx z r hsz=>?_
 refine callType_codes (Q₁:=λ obj aW=>obj=.ref s.heap.objs.size/\aW={s with heap:=s.heap.push {cls:=.type "dict",data:=.dict #[]}}) F.kt_called_dict (F.kt_typeCall_dict_1 _) F.entry_dict_init (kt_code_dict_new _ ⟨rfl,rfl⟩) ?_
 rintro obj aW ⟨rfl,rfl⟩
 generalize hD:s.heap.objs.size=D
 have ND:(s.heap.push {cls:=.type "dict",data:=.dict #[]}).DictOf (intKind B.prog B.w) D []:=hD ▸ Heap.DictOf.new s.heap
 have nD:=R.rI (bw hD)
 refine⟨ND.typeIs,F.args_dict_init_2 _ _,?_⟩
 unfold Builtin.«dict.__init__»
 refine aq ?_
 unfold Builtin.Dict.selfAndRest
 refine aq (wpAny_notOrdered_dict ND.typeIs ?_)
 show wpAny _ _ (pure (D,[Value.ref a])) _ _ _
 refine a8 ?_
 show wpAny _ _ (Builtin.Dict.updateFrom "dict.__init__" D (.ref a) [] .none) _ _ _
 unfold Builtin.Dict.updateFrom
 refine aq (wpAny_typeOf (T:="list") ⟨_,pk _ _ hx,rfl⟩ ?_)
 rw[if_pos (by decide)]
 refine aq (EX (pk _ _ hx) hh λ h1 YY k1=>?_)
 have k2:∀b o,s.heap.get? b=some o->h1.get? b=some o:=λ b o e=>k1 b o (pk b o e)
 rw[if_pos (show(none:Option Value).isNone=true from rfl)]
 refine aq (wpAny_rule ?_)
 have Wg:h1.DictOf (intKind B.prog B.w) D []:=ND.at λ o e=>k1 _ o e
 refine aq (ix (k:=.list) (xs:=xs) ⟨_,k2 _ _ hx,rfl,nx,rfl⟩ ?_)
 have nI:=R.new k2 (bE h1.objs.size)
 have Yf:D≠h1.objs.size:=λ e=>by
  refine im Wg λ o u0 u0 e' u0=>?_
  exact absurd (iI e') (e ▸ Nat.lt_irrefl _)
 refine a8 ⟨plainId_quiet fL _,?_⟩
 refine Io (A:=A.in1) hh hx r hn nD.1 nI.1 Yf l 0 _ [] es [] rfl hp (by simpa using nd) rfl ⟨_,_,rfl⟩ (λ b o e=>pk b o (k2 b o e)) .new (Wg.push _) .nil λ FH M1 e ks hd rk=>⟨rfl,?_⟩
 refine gN e λ h' tk ak=>?_;obtain rfl:=ak
 have nd':aH h' D=none:=by
  refine wu hd λ o u0 u0 e x u0=>?_
  unfold aH
  rw[show h'.get? D=some o from e]
  exact x.2.1
 have RD:aR h' D:=by refine im hd λ o u0 u0 e u0=>?_;exact⟨o,e⟩
 obtain⟨IP,R',S⟩:=R.alloc (tk:=tk) (O:=.ao es) ks nD (.ao hd (rk.grow (dX.keeps ks))) (λ d e=>by rw[nd'] at e;cases e)
 exact⟨.ref D,_,.ref RD (R.ql nD.1),R',S.weaken (λ u0=>rfl),fg q _ IP⟩
end
section
variable {B : Base} {n : Nat} {C : CS} {sc : Scope} {ρ : fS} {ro : Bool}
theorem lJ(kn:KN B){H:Mine.H}{W E:Value->Shared->Prop}(hs:env.scope=sc)(hy:cg sc y=true)(hb:bootBuiltins y=some (.type T))(jN:y≠"__name__")
  (hm:y∈Do)(hx:xs.all aN=true)(r:eD B H s.heap env ρ fr)(R:Rel B H s.heap)(h:wpAny (model B.prog B.w) A (spliced (backTo p (starEach xs env))) (λ vs aW=>wpAny (model B.prog B.w) A (call (.type T) vs) W E aW) E s):
  wpAny (model B.prog B.w) A (eval (.Call (.Name y np) xs [] p) env) W E s:=th (Gg hs hy r R (kn.gb y hm) jN hb (ti hx h))
theorem RE(ih:SE B n C sc ρ ro e x):SI B n C sc ρ ro (.of e) x:=λ A H s env fr K tgt ks oa hs r R u0 u0 hw=>
 bM R (ih _ _ _ _ _ _ oa hs r R hw) λ v y H' s' rv R' S q=>cW (EN rv R' q) (λ sF s3 p=>⟨H',s',R',S,p⟩) λ u0 u0 x=>x
theorem Lb(ih:SE B n C sc ρ ro e x):SI B n C sc ρ ro (.keys e) x:=λ A H s env fr K tgt ks oa hs r R u0 hk hw=>
 bM R (ih _ _ _ _ _ _ oa hs r R hw) λ v y H' s' rv R' S q=>cW (EO rv R' (hk rfl) q) (λ sF s3 p=>⟨H',s',R',S,p⟩) λ u0 u0 x=>x
theorem Ip(kn:KN B)(hy:cg sc "range"=true)(hn:aN a=true)(ih:SE B n C sc ρ ro e a):SI B n C sc ρ ro (.range e) (.Call (.Name "range" np) [a] [] p):=λ A H s env fr K tgt ks oa hs r R u0 u0 hw=>
 lJ kn hs hy (T:="range") rfl (by decide+kernel) (by decide+kernel) (by simp[hn]) r R (spliced_more (bM R (ih _ _ _ _ _ _ oa hs r R hw) λ v y H' s' rv R' S q=>spliced_none
  (cW (BN rv R' q) (λ xv s1 h=>cW h (λ sF s3 p=>⟨H',s',R',S,p⟩) λ u0 u0 x=>x) λ u0 u0 x=>x)) (dC hn))
theorem Lc(kn:KN B)(hy:cg sc "enumerate"=true)(hn:aN a=true)(ih:SE B n C sc ρ ro e a):SI B n C sc ρ ro (.enum e) (.Call (.Name "enumerate" np) [a] [] p):=λ A H s env fr K tgt ks oa hs r R ht u0 hw=>
 lJ kn hs hy (T:="enumerate") rfl (by decide+kernel) (by decide+kernel) (by simp[hn]) r R (spliced_more (bM R (ih _ _ _ _ _ _ oa hs r R hw) λ v y H' s' rv R' S q=>spliced_none
  (cW (EP rv R' ht q) (λ xv s1 h=>cW h (λ sF s3 p=>⟨H',s',R',S,p⟩) λ u0 u0 x=>x) λ u0 u0 x=>x)) (dC hn))
theorem Oj(kn:KN B)(hy:cg sc "zip"=true)(hn:aN a=true)(IS:aN b=true)(ih:SE B n C sc ρ ro e a)(lA:SE B n C sc ρ ro f b):SI B n C sc ρ ro (.zip e f) (.Call (.Name "zip" np) [a,b] [] p):=λ A H s env fr K tgt ks oa hs r R ht u0 hw=>
 lJ kn hs hy (T:="zip") rfl (by decide+kernel) (by decide+kernel) (by simp[hn,IS]) r R (spliced_more (bM R (ih _ _ _ _ _ _ oa hs r R hw) λ v y H' s' rv R' S q=>spliced_more (bM R' (lA _ _ _ _ _ _ oa hs (r.go S) R' q) λ v2 y2 H2 s2 vr R2 S2 q2=>spliced_none
  (cW (Ia (rv.grow S2.grow) vr R2 ht q2) (λ xv s1 h=>cW h (λ sF s3 p=>⟨H2,s2,R2,S.both R S2,p⟩) λ u0 u0 x=>x) λ u0 u0 x=>x)) (dC IS)) (dC hn))
theorem Aa(kn:KN B)(hl:cg sc "list"=true)(YZ:aN (.Call (.Name "range" np) [a] [] p)=true)(hy:cg sc "range"=true)(hn:aN a=true)(ih:SE B n C sc ρ ro e a):SE B n C sc ρ ro (.gI (.range e)) (.Call (.Name "list" OM) [.Call (.Name "range" np) [a] [] p] [] p'):=λ A H s env fr Q oa hs r R hw=>
 lJ kn hs hl (T:="list") rfl (by decide+kernel) (by decide+kernel) rfl r R (spliced_more (lJ kn hs hy (T:="range") rfl (by decide+kernel) (by decide+kernel) (by simp[hn]) r R (spliced_more (bM R (ih _ _ _ _ _ _ oa hs r R hw) λ v y H' s' rv R' S q=>spliced_none
  (cW (BU (ro:=ro) oa.hh rv R' q) (λ xv s1 h=>spliced_none (cW h (λ y s2 h=>lX R S h) λ u0 u0 x=>x)) λ u0 u0 x=>x)) (dC hn))) rfl)
theorem EY(kn:KN B)(hl:cg sc "list"=true)(hy:cg sc "zip"=true)(hn:aN a=true)(IS:aN b=true)(ih:SE B n C sc ρ ro e a)(lA:SE B n C sc ρ ro f b):SE B n C sc ρ ro (.gI (.zip e f)) (.Call (.Name "list" OM) [.Call (.Name "zip" np) [a,b] [] p] [] p'):=λ A H s env fr Q oa hs r R hw=>
 lJ kn hs hl (T:="list") rfl (by decide+kernel) (by decide+kernel) rfl r R (spliced_more (lJ kn hs hy (T:="zip") rfl (by decide+kernel) (by decide+kernel) (by simp[hn,IS]) r R (spliced_more (bM R (ih _ _ _ _ _ _ oa hs r R hw) λ v y H' s' rv R' S q=>spliced_more (bM R' (lA _ _ _ _ _ _ oa hs (r.go S) R' q) λ v2 y2 H2 s2 vr R2 S2 q2=>spliced_none
  (cW (Ik (ro:=ro) oa.hh (rv.grow S2.grow) vr R2 ((r.go S).go S2) q2) (λ xv s1 h=>spliced_none (cW h (λ y s2 h=>lX R (S.both R S2) h) λ u0 u0 x=>x)) λ u0 u0 x=>x)) (dC IS)) (dC hn))) rfl)
theorem Iq(kn:KN B)(hy:cg sc "dict"=true)(hx:xs.all aN=true)(ih:CT B n C sc ρ ro es xs):SE B n C sc ρ ro (.bi .dictOf es) (.Call (.Name "dict" np) xs [] p):=λ A H s env fr Q oa hs r R hw=>
 lJ kn hs hy (T:="dict") rfl (by decide+kernel) (by decide+kernel) hx r R (oU R (ih _ _ _ _ _ _ _ oa hs r R hw) λ l ys H' s' rl R' S q=>by
  refine aG (KW (b:=.dictOf) (λ u0 u0 u0 u0 h=>h.elim) (λ u0 u0 u0 u0 u0 h=>h.elim) q) λ v ak q=>?_;obtain rfl:=ak
  refine aG (DI rl) λ x ak rx=>?_;obtain rfl:=ak
  exact fA R S (z9 oa.hh rx R' q))
end
theorem KN.w(k:KN B)(Z:Nat->Prop):KN (B.with Z):=⟨k.gs,k.gf,k.gc,k.gb,k.od⟩
theorem KF.w(k:KF B)(Z:Nat->Prop):KF (B.with Z):=⟨k.pg,k.hd,k.no,k.me,k.fn,k.st,k.po,k.V6,k.V7,k.kc,k.kf⟩
noncomputable def SX(B:Base)(n:Nat)(C:CS)(sc:Scope)(ρ:fS)(ro t:Bool)(e:Ex)(x:Expr):Prop:=match t with
 |false=>SE B n C sc ρ ro e x
 |true=>ST B n C sc ρ ro e x
section
variable {B : Base} {n : Nat} {C : CS} {sc : Scope} {ρ : fS} {ro t : Bool}
theorem Ir(hp:mV x=true)(h:SE B n C sc ρ ro e x):SX B n C sc ρ ro t e x:=by
 cases t with
 |false=>exact h
 |true=>exact Od hp h
theorem AZ:∀{es:Es} {xs:List Expr},rK (ST B n C sc ρ ro) es xs->SG B n C sc ρ ro es xs
 | .nil,_,h=>h
 | .cons _ _,_,⟨x,ys,e,a,b⟩=>⟨x,ys,e,a,AZ b⟩
theorem lL:∀{es:Es} {xs:List Expr},rK (SE B n C sc ρ ro) es xs->xs.all aN=true->CT B n C sc ρ ro es xs
 | .nil,_,h,_=>by cases h;exact Ry
 | .cons _ _,_,⟨x,ys,e,a,b⟩,h=>by
  subst e
  rw[List.all_cons] at h
  exact Oe (bm h).1 a (lL b (bm h).2)
theorem Ok(h:rK (ST B n C sc ρ ro) es xs):ST B n C sc ρ ro (.and es) (.BoolOp .And xs p):=λ A H s env fr Q oa hs r R hw=>
 Mz (AZ h) oa hs r R hw
theorem RG(h:rK (ST B n C sc ρ ro) es xs):ST B n C sc ρ ro (.or es) (.BoolOp .Or xs p):=λ A H s env fr Q oa hs r R hw=>
 Qd (AZ h) oa hs r R hw
end
theorem BV(h:GC x=true):∃p,x=.List [] p:=by
 refine aK (aw h) λ q e=>?_
 exact⟨q.1.2,q.2.trans (congrArg (λ l=>Expr.List l q.1.2) (List.isEmpty_iff.mp e))⟩
theorem tV(h:AQ x=true):∃p,x=.Dict [] [] p:=by
 refine aK (aw h) λ q e=>?_
 exact⟨q.1.2.2,(q.2.trans (congrArg (λ l=>Expr.Dict l q.1.2.1 q.1.2.2) (List.isEmpty_iff.mp (bm e).1))).trans (congrArg (λ l=>Expr.Dict [] l q.1.2.2) (List.isEmpty_iff.mp (bm e).2))⟩
theorem qK{P:Expr->Bool}(h:((jR x).any λ q=>b&&q.1.1==nm&&(nA q.1.2.1).any λ a=>P a.1)=true):∃np a p,x=.Call (.Name nm np) [a] [] p/\b=true/\P a=true:=by
 refine aK (aw h) λ q h=>?_
 refine fy (cu h) λ h3 h4 h5=>?_
 refine aK (aw h5) λ a h7=>?_
 exact⟨_,a.1,_,(q.2.trans (congrArg (λ n=>Expr.Call (.Name n q.1.2.2.1) q.1.2.1 [] q.1.2.2.2) (eq_of_beq h4))).trans (congrArg (λ l=>Expr.Call (.Name nm q.1.2.2.1) l [] q.1.2.2.2) a.2),h3,h7⟩
theorem vZ{P:Expr×Expr->Bool}(h:((jR x).any λ q=>b&&q.1.1==nm&&(Nu q.1.2.1).any λ a=>P a.1)=true):∃np a p,x=.Call (.Name nm np) [a.1,a.2] [] p/\b=true/\P a=true:=by
 refine aK (aw h) λ q h=>?_
 refine fy (cu h) λ h3 h4 h5=>?_
 refine aK (aw h5) λ a h7=>?_
 exact⟨_,a.1,_,(q.2.trans (congrArg (λ n=>Expr.Call (.Name n q.1.2.2.1) q.1.2.1 [] q.1.2.2.2) (eq_of_beq h4))).trans (congrArg (λ l=>Expr.Call (.Name nm q.1.2.2.1) l [] q.1.2.2.2) a.2),h3,h7⟩
section
variable {B : Base} {n : Nat} {C : CS} {sc : Scope} {ρ : fS} {ro t : Bool}
theorem SX.of(q:x=y)(h:SX B n C sc ρ ro t e y):SX B n C sc ρ ro t e x:=q ▸ h
theorem SX.pl{e:Ex}{x y:Expr}(q:x=y)(h:SE B n C sc ρ ro e y)(hp:mV y=true:=by rfl):SX B n C sc ρ ro t e x:=q ▸ Ir hp h
theorem pE(h:((gK x).any λ q=>decide (q.1.1=c))=true)(s:∀{k p},SE B n C sc ρ ro e (.Constant c k p)):SX B n C sc ρ ro t e x:=by
 refine aK (aw h) λ q h=>?_
 exact .pl (q.2.trans (congrArg (λ c=>Expr.Constant c q.1.2.1 q.1.2.2) (uG h))) s
theorem Ol(h:((O8 x).any λ q=>decide (q.1.1=.USub)&&(gK q.1.2.1).any λ c=>decide (c.1.1=.int (-i)))=true):SX B n C sc ρ ro t (.int i) x:=by
 refine aK (aw h) λ q h=>?_
 refine bV (bm h) λ h1 h2=>?_
 refine aK (aw h2) λ c h2=>?_
 have:=λ k p q=>@Rp B n C sc ρ ro (-i) k p q
 rw[Int.neg_neg] at this
 exact .pl ((q.2.trans (congrArg (λ o=>Expr.UnaryOp o q.1.2.1 q.1.2.2) (uG h1))).trans (congrArg (λ y=>Expr.UnaryOp .USub y q.1.2.2) (c.2.trans (congrArg (λ c'=>Expr.Constant c' c.1.2.1 c.1.2.2) (uG h2))))) (this _ _ _)
theorem Iu(h:((F5 x).any λ q=>(nA q.1.1).any λ a=>(xX a.1).any λ a'=>(nA q.1.2.1).any λ b=>(P8 k).any λ i=>(P9 v).any λ c=>((gK a'.1).any λ q=>decide (q.1.1=.int i.1))&&(gK b.1).any λ q=>decide (q.1.1=.bool c.1))=true):SX B n C sc ρ ro t (.q0 k v) x:=by
 refine aK (aw h) λ q h=>?_
 refine aK (aw h) λ a h=>?_
 refine aK (aw h) λ a' h=>?_
 refine aK (aw h) λ b h=>?_
 refine aK (aw h) λ i h=>?_
 refine aK (aw h) λ c h=>?_
 refine aK (aw (bm h).1) λ u h1=>?_
 refine aK (aw (bm h).2) λ w h2=>?_
 have e1:=u.2.trans (congrArg (λ c=>Expr.Constant c u.1.2.1 u.1.2.2) (uG h1))
 have e2:=w.2.trans (congrArg (λ c=>Expr.Constant c w.1.2.1 w.1.2.2) (uG h2))
 have e:=(q.2.trans (congrArg (λ l=>Expr.Dict l q.1.2.1 q.1.2.2) (a.2.trans (congrArg (λ o=>[o]) (a'.2.trans (congrArg some e1)))))).trans (congrArg (λ l=>Expr.Dict [some _] l q.1.2.2) (b.2.trans (congrArg (λ o=>[o]) e2)))
 have g:SX B n C sc ρ ro t (.q0 (.int i.1) (.bool c.1)) x:=.pl e K6
 rw[←i.2,←c.2] at g
 exact g
end
theorem GN(h:SD it=true):MZ it (.Name z px):=by cases it<;>first|trivial|cases h
theorem v9{x a b:Expr}(h:x=.Call (.Name y np) xs [] p)(e:y=z)(f:xs=[a])(g:a=b):x=.Call (.Name z np) [b] [] p:=by rw[h,e,f,g]
section
variable {B : Base} {n : Nat} {C : CS}
mutual
theorem sE (kn:KN B) (kf:KF B) (sd:∀Z,gL (B.with Z) n C):∀(e:Ex) (sc:Scope) (ρ:fS) (t ro:Bool) (Z:Nat->Prop) (x:Expr),mE sc ρ t e x=true->(ro=true->fU e=true)->SX (B.with Z) n C sc ρ ro t e x
 | .none,sc,ρ,t,ro,Z,x,h,hr=>pE h Ob
 | .bool b,sc,ρ,t,ro,Z,x,h,hr=>pE h Oc
 | .int i,sc,ρ,t,ro,Z,x,h,hr=>(sG h).elim (λ h=>pE h Ro) Ol
 | .str w,sc,ρ,t,ro,Z,x,h,hr=>pE h Rq
 | .qh w,sc,ρ,t,ro,Z,x,h,hr=>by
  refine aK (aw h) λ q h=>?_
  exact .pl q.2 (N9 (kn.w Z) (bm h).1 (eq_of_beq (bm h).2))
 | .var i,sc,ρ,t,ro,Z,x,h,hr=>by
  refine aK (aw h) λ q h=>?_
  exact .pl q.2 (Rm h)
 | .attr e a,sc,ρ,t,ro,Z,x,h,hr=>by
  refine aK (aw h) λ q h=>?_
  refine fy (cu h) λ g1 g2 g3=>?_
  exact .pl (q.2.trans (congrArg (λ n=>Expr.Attribute q.1.1 n q.1.2.2) (eq_of_beq g2))) (Oa (kf.w Z) g1 (sE kn kf sd e sc ρ false ro Z _ g3 hr))
 | .sub e i,sc,ρ,t,ro,Z,x,h,hr=>by
  refine aK (aw h) λ q h=>?_
  refine fy (cu h) λ g1 g2 g3=>?_
  exact .pl q.2 (Rn g1 (sE kn kf sd e sc ρ false ro Z _ g2 λ q=>(bm (hr q)).1) (sE kn kf sd i sc ρ false ro Z _ g3 λ q=>(bm (hr q)).2))
 | .Dt i,sc,ρ,t,ro,Z,x,h,hr=>by
  refine aK (aw h) λ q h=>?_
  refine gM (dm h) λ g1 g2 g3 g4=>?_
  refine aK (aw g1) λ y g1=>?_
  exact .pl (q.2.trans (congrArg (λ n=>Expr.Subscript n q.1.2.1 q.1.2.2) (y.2.trans (congrArg (λ n=>Expr.Name n y.1.2) (eq_of_beq g1))))) (Og (kn.w Z) g2 g3 (sE kn kf sd i sc ρ false ro Z _ g4 hr))
 | .cut e k,sc,ρ,t,ro,Z,x,h,hr=>by
  refine aK (aw h) λ q h=>?_
  exact .pl q.2 (Rr (bm h).1 (sE kn kf sd e sc ρ false ro Z _ (bm h).2 hr))
 | .bin o l r,sc,ρ,t,ro,Z,x,h,hr=>by
  refine aK (aw h) λ q h=>?_
  refine fy (cu h) λ g1 g2 g3=>?_
  exact .pl (q.2.trans (congrArg (λ o=>Expr.BinOp q.1.1 o q.1.2.2.1 q.1.2.2.2) (uG g1))) (Rs (sE kn kf sd l sc ρ false ro Z _ g2 λ q=>(bm (hr q)).1) (sE kn kf sd r sc ρ false ro Z _ g3 λ q=>(bm (hr q)).2))
 | .cmp o l r,sc,ρ,t,ro,Z,x,h,hr=>by
  refine aK (aw h) λ q h=>?_
  refine gM (dm h) λ g1 g2 g3 g4=>?_
  refine SX.of (q.2.trans (congrArg (λ o=>Expr.Compare q.1.1 [o] [q.1.2.2.1] q.1.2.2.2) (uG g1))) ?_
  cases t with
  |false=>exact Rt g2 (sE kn kf sd l sc ρ false ro Z _ g3 λ q=>(bm (hr q)).1) (sE kn kf sd r sc ρ false ro Z _ g4 λ q=>(bm (hr q)).2)
  |true=>exact Ru g2 (sE kn kf sd l sc ρ false ro Z _ g3 λ q=>(bm (hr q)).1) (sE kn kf sd r sc ρ false ro Z _ g4 λ q=>(bm (hr q)).2)
 | .chain l m r,sc,ρ,t,ro,Z,x,h,hr=>by
  refine aK (aw h) λ q h=>?_
  have et:=(dm h).1
  cases t;case false=>exact kK et
  refine gM (dm h) λ u0 g2 g3 g4=>?_
  refine aK (aw g4) λ b g4=>?_
  refine fy (cu g4) λ k1 k2 k3=>?_
  exact SX.of ((q.2.trans (congrArg (λ o=>Expr.Compare q.1.1 o q.1.2.2.1 q.1.2.2.2) (uG g2))).trans (congrArg (λ l=>Expr.Compare q.1.1 [.LtE,.Lt] l q.1.2.2.2) b.2))
   (K7 (B:=B.with Z) k1 (sE kn kf sd l sc ρ false ro Z _ g3 λ q=>(cu (hr q)).1) (sE kn kf sd m sc ρ false ro Z _ k2 λ q=>(cu (hr q)).2.1) (sE kn kf sd r sc ρ false ro Z _ k3 λ q=>(cu (hr q)).2.2))
 | .fG ne e,sc,ρ,t,ro,Z,x,h,hr=>by
  refine aK (aw h) λ q h=>?_
  have et:=(dm h).1
  cases t;case false=>exact kK et
  refine gM (dm h) λ u0 g2 g3 g4=>?_
  refine aK (BV g3) λ p e'=>?_
  exact SX.of ((q.2.trans (congrArg (λ o=>Expr.Compare q.1.1 [o] [q.1.2.2.1] q.1.2.2.2) (uG g2))).trans (congrArg (λ o=>Expr.Compare q.1.1 [Ay ne] [o] q.1.2.2.2) e')) (H6 (B:=B.with Z) (sE kn kf sd e sc ρ false ro Z _ g4 hr))
 | .ju ne e,sc,ρ,t,ro,Z,x,h,hr=>by
  refine aK (aw h) λ q h=>?_
  have et:=(dm h).1
  cases t;case false=>exact kK et
  refine gM (dm h) λ u0 g2 g3 g4=>?_
  refine aK (tV g3) λ p e'=>?_
  exact SX.of ((q.2.trans (congrArg (λ o=>Expr.Compare q.1.1 [o] [q.1.2.2.1] q.1.2.2.2) (uG g2))).trans (congrArg (λ o=>Expr.Compare q.1.1 [Ay ne] [o] q.1.2.2.2) e')) (H7 (B:=B.with Z) (sE kn kf sd e sc ρ false ro Z _ g4 hr))
 | .nU l r,sc,ρ,t,ro,Z,x,h,hr=>by
  refine aK (aw h) λ q h=>?_
  have et:=(bm (dm h).1).1
  cases t;case false=>exact kK et
  refine gM (dm h) λ g1 g2 g3 g4=>?_
  exact SX.of (q.2.trans (congrArg (λ o=>Expr.Compare q.1.1 [o] [q.1.2.2.1] q.1.2.2.2) (uG (bm g1).2))) (H8 (B:=B.with Z) g2 (sE kn kf sd l sc ρ false ro Z _ g3 λ q=>(bm (hr q)).1) (sE kn kf sd r sc ρ false ro Z _ g4 λ q=>(bm (hr q)).2))
 | .or es,sc,ρ,t,ro,Z,x,h,hr=>by
  refine aK (aw h) λ q h=>?_
  refine fy (cu h) λ g1 g2 g3=>?_
  refine SX.of (q.2.trans (congrArg (λ o=>Expr.BoolOp o q.1.2.1 q.1.2.2) (uG g1))) ?_
  cases t with
  |false=>exact Qe (CU kn kf sd es sc ρ false ro Z _ g3 hr) (Re g2)
  |true=>exact RG (CU kn kf sd es sc ρ true ro Z _ g3 hr)
 | .and es,sc,ρ,t,ro,Z,x,h,hr=>by
  refine aK (aw h) λ q h=>?_
  have et:=(cu h).2.1
  cases t;case false=>exact kK et
  refine fy (cu h) λ g1 u0 g3=>?_
  exact SX.of (q.2.trans (congrArg (λ o=>Expr.BoolOp o q.1.2.1 q.1.2.2) (uG g1))) (Ok (B:=B.with Z) (CU kn kf sd es sc ρ true ro Z _ g3 hr))
 | .not e,sc,ρ,t,ro,Z,x,h,hr=>by
  refine aK (aw h) λ q h=>?_
  have et:=(cu h).2.1
  cases t;case false=>exact kK et
  refine fy (cu h) λ g1 u0 g3=>?_
  exact SX.of (q.2.trans (congrArg (λ o=>Expr.UnaryOp o q.1.2.1 q.1.2.2) (uG g1))) (Rv (B:=B.with Z) (sE kn kf sd e sc ρ true ro Z _ g3 hr))
 | .ite c a b,sc,ρ,t,ro,Z,x,h,hr=>by
  refine aK (aw h) λ q h=>?_
  have et:=(dm h).1
  cases t;case true=>exact kK et
  refine gM (dm h) λ u0 g2 g3 g4=>?_
  exact SX.of q.2 (Rx (B:=B.with Z) (sE kn kf sd c sc ρ true ro Z _ g2 λ q=>(cu (hr q)).1) (sE kn kf sd a sc ρ false ro Z _ g3 λ q=>(cu (hr q)).2.1) (sE kn kf sd b sc ρ false ro Z _ g4 λ q=>(cu (hr q)).2.2))
 | .list es,sc,ρ,t,ro,Z,x,h,hr=>by
  refine aK (aw h) λ q h=>?_
  exact .pl q.2 (Of (lL (CU kn kf sd es sc ρ false ro Z _ (bm h).2 hr) (bm h).1))
 | .tup es,sc,ρ,t,ro,Z,x,h,hr=>by
  refine aK (aw h) λ q h=>?_
  exact .pl q.2 (Rz (lL (CU kn kf sd es sc ρ false ro Z _ (bm h).2 hr) (bm h).1))
 | .lB b,sc,ρ,t,ro,Z,x,h,hr=>(tV h).elim λ u0 e=> .pl e K5
 | .q0 k v,sc,ρ,t,ro,Z,x,h,hr=>Iu h
 | .comp gy bp it cond,sc,ρ,t,ro,Z,x,h,hr=>by
  refine aK (aw h) λ q h=>?_
  refine gM (dm h) λ h h5 h6 h7=>?_
  refine gM (dm h) λ h1 h2 h3 h4=>?_
  have hk:yd it=true->(fU gy&&jM cond)=true:=λ q=>by rw[q] at h4;exact h4
  have Aj:ro=true->fU gy=true/\OH it=true/\jM cond=true:=λ q=>cu (hr q)
  have hb:(ro||yd it)=true->fU gy=true/\jM cond=true:=λ q=>(sG q).elim (λ q=>⟨(Aj q).1,(Aj q).2.2⟩) λ q=>bm (hk q)
  exact .pl q.2 (GJ (rb:=ro||yd it) (vU h1) h2 (sI kn kf sd it sc ρ ro Z _ h5 λ q=>(Aj q).2.1) (λ Z'=>sE kn kf sd gy _ _ false _ Z' _ h6 λ q=>(hb q).1) (λ Z'=>CU kn kf sd cond _ _ true _ Z' _ h7 λ q=>(hb q).2) (GN h3) (λ q=>by rw[q];rfl) (λ q=>by rw[q,Bool.or_true]))
 | .call f es,sc,ρ,t,ro,Z,x,h,hr=>by
  cases ro;case true=>cases hr rfl
  refine aK (aw h) λ q h=>?_
  refine gM (dm h) λ g1 g2 g3 g4=>?_
  exact .pl q.2 (Oh (kn.w Z) (kf.w Z) (sd Z) g1 (eq_of_beq g2) g3 nofun (lL (CU kn kf sd es sc ρ false false Z _ g4 nofun) g3))
 | .new c es,sc,ρ,t,ro,Z,x,h,hr=>by
  cases ro;case true=>cases hr rfl
  refine aK (aw h) λ q h=>?_
  refine gM (dm h) λ g1 g2 g3 g4=>?_
  have g2:=eq_of_beq g2
  exact .pl (q.2.trans (congrArg (λ y=>Expr.Call (.Name y q.1.2.2.1) q.1.2.1 [] q.1.2.2.2) g2.symm)) (RC (kn.w Z) (kf.w Z) (sd Z) (g2 ▸ g1) g3 (lL (CU kn kf sd es sc ρ false false Z _ g4 nofun) g3))
 | .eF e m es,sc,ρ,t,ro,Z,x,h,hr=>by
  refine aK (aw h) λ ak h=>?_;obtain⟨q,hq,a1,a2,a3,a4⟩:=ak
  refine fy (cu h) λ g1 g2 g3=>?_
  have Aj:ro=true->decide (m=.cv)=true/\fU e=true/\jM es=true:=λ q=>cu (hr q)
  exact .pl (hq.trans (congrArg (λ y=>Expr.Call (.Attribute q.1 y q.2.2.2.1) q.2.2.1 [] q.2.2.2.2) (eq_of_beq g1))) (Oi (kf.w Z) (sd Z) a1 a2 a3 a4 (λ q=>uG (Aj q).1) (sE kn kf sd e sc ρ false ro Z _ g2 λ q=>(Aj q).2.1) (lL (CU kn kf sd es sc ρ false ro Z _ g3 λ q=>(Aj q).2.2) a4))
 | .bi b es,sc,ρ,t,ro,Z,x,h,hr=>by
  refine aK (aw h) λ q h=>?_
  refine gM (dm h) λ g1 g2 g3 g4=>?_
  have ih:CT (B.with Z) n C sc ρ ro es q.1.2.1:=lL (CU kn kf sd es sc ρ false ro Z _ g4 hr) g3
  by_cases e:b=.dictOf
  ·subst e
   have e:=c8 (eq_of_beq g2)
   exact .pl (q.2.trans (congrArg (λ y=>Expr.Call (.Name y q.1.2.2.1) q.1.2.1 [] q.1.2.2.2) e.symm)) (Iq (kn.w Z) (e ▸ g1) g3 ih)
  ·exact .pl q.2 (RA (kn.w Z) g1 (eq_of_beq g2) e g3 ih)
 | .jt b e es,sc,ρ,t,ro,Z,x,h,hr=>by
  refine aK (aw h) λ ak h=>?_;obtain⟨q,hq,a1,a2,a3,a4⟩:=ak
  refine fy (cu h) λ g1 g2 g3=>?_
  have Aj:ro=true->decide (b≠.iP)=true/\fU e=true/\jM es=true:=λ q=>cu (hr q)
  exact .pl hq (RB a1 (eq_of_beq g1) a2 a3 a4 (λ q=>Bool.eq_false_iff.mpr λ z=>absurd q (uG (Aj z).1)) (sE kn kf sd e sc ρ false ro Z _ g2 λ q=>(Aj q).2.1) (lL (CU kn kf sd es sc ρ false ro Z _ g3 λ q=>(Aj q).2.2) a4))
 | .gI (.range e),sc,ρ,t,ro,Z,x,h,hr=>by
  refine aK (aw h) λ q h=>?_
  refine gM (dm h) λ g1 g2 u0 g4=>?_
  refine aK (aw g4) λ a h7=>?_
  refine wu (qK (P:=λ a=>aN a&&mE sc ρ false e a) h7) λ OM b p' e' k1 k2=>?_
  exact .pl (v9 q.2 (eq_of_beq g2) a.2 e') (Aa (kn.w Z) g1 rfl k1 (bm k2).1 (sE kn kf sd e sc ρ false ro Z b (bm k2).2 hr))
 | .gI (.zip e f),sc,ρ,t,ro,Z,x,h,hr=>by
  refine aK (aw h) λ q h=>?_
  refine gM (dm h) λ g1 g2 u0 g4=>?_
  refine aK (aw g4) λ a h7=>?_
  refine wu (vZ (P:=λ q=>(aN q.1&&aN q.2)&&mE sc ρ false e q.1&&mE sc ρ false f q.2) h7) λ OM b p' e' k1 k2=>?_
  refine fy (cu k2) λ m1 m2 m3=>?_
  exact .pl (v9 q.2 (eq_of_beq g2) a.2 e') (EY (kn.w Z) g1 k1 (bm m1).1 (bm m1).2 (sE kn kf sd e sc ρ false ro Z b.1 m2 λ q=>(bm (hr q)).1) (sE kn kf sd f sc ρ false ro Z b.2 m3 λ q=>(bm (hr q)).2))
 | .gI (.of e),sc,ρ,t,ro,Z,x,h,hr=>by
  refine aK (aw h) λ q h=>?_
  cases(dm h).2.2.1
 | .gI (.keys e),sc,ρ,t,ro,Z,x,h,hr=>by
  refine aK (aw h) λ q h=>?_
  cases(dm h).2.2.1
 | .gI (.enum e),sc,ρ,t,ro,Z,x,h,hr=>by
  refine aK (aw h) λ q h=>?_
  cases(dm h).2.2.1
theorem CU (kn:KN B) (kf:KF B) (sd:∀Z,gL (B.with Z) n C):∀(es:Es) (sc:Scope) (ρ:fS) (t ro:Bool) (Z:Nat->Prop) (xs:List Expr),CR sc ρ t es xs=true->(ro=true->jM es=true)->rK (SX (B.with Z) n C sc ρ ro t) es xs
 | .nil,sc,ρ,t,ro,Z,xs,h,hr=>by
  cases xs with
  |nil=>rfl
  |cons _ _=>exact kK h
 | .cons e es,sc,ρ,t,ro,Z,xs,h,hr=>by
  cases xs with
  |nil=>exact kK h
  |cons x xs=>
   refine bV (bm (a:=mE sc ρ t e x) (b:=CR sc ρ t es xs) h) λ h1 h2=>?_
   exact⟨x,xs,rfl,sE kn kf sd e sc ρ t ro Z x h1 λ q=>(bm (hr q)).1,CU kn kf sd es sc ρ t ro Z xs h2 λ q=>(bm (hr q)).2⟩
theorem sI (kn:KN B) (kf:KF B) (sd:∀Z,gL (B.with Z) n C):∀(it:It) (sc:Scope) (ρ:fS) (ro:Bool) (Z:Nat->Prop) (x:Expr),SF sc ρ it x=true->(ro=true->OH it=true)->SI (B.with Z) n C sc ρ ro it x
 | .of e,sc,ρ,ro,Z,x,h,hr=>RE (sE kn kf sd e sc ρ false ro Z x h hr)
 | .keys e,sc,ρ,ro,Z,x,h,hr=>Lb (sE kn kf sd e sc ρ false ro Z x h hr)
 | .range e,sc,ρ,ro,Z,x,h,hr=>by
  refine im (qK (P:=λ a=>aN a&&mE sc ρ false e a) h) λ OM b p' ak bA=>?_;obtain rfl:=ak;refine bV bA λ k1 k2=>?_
  exact Ip (kn.w Z) k1 (bm k2).1 (sE kn kf sd e sc ρ false ro Z b (bm k2).2 hr)
 | .zip e f,sc,ρ,ro,Z,x,h,hr=>by
  refine im (vZ (P:=λ q=>(aN q.1&&aN q.2)&&mE sc ρ false e q.1&&mE sc ρ false f q.2) h) λ OM b p' ak bA=>?_;obtain rfl:=ak;refine bV bA λ k1 k2=>?_
  refine fy (cu k2) λ m1 m2 m3=>?_
  exact Oj (kn.w Z) k1 (bm m1).1 (bm m1).2 (sE kn kf sd e sc ρ false ro Z b.1 m2 λ q=>(bm (hr q)).1) (sE kn kf sd f sc ρ false ro Z b.2 m3 λ q=>(bm (hr q)).2)
 | .enum e,sc,ρ,ro,Z,x,h,hr=>by
  refine im (qK (P:=λ a=>aN a&&mE sc ρ false e a) h) λ OM b p' ak bA=>?_;obtain rfl:=ak;refine bV bA λ k1 k2=>?_
  exact Lc (kn.w Z) k1 (bm k2).1 (sE kn kf sd e sc ρ false ro Z b (bm k2).2 hr)
end
end
noncomputable def PF(B:Base)(ro:Bool)(H:Mine.H)(s:Shared)(env:Env)(ρ:fS)(Q:Out->Mine.Fr->Mine.H->Prop):Flow->Shared->Prop:=
 λ f s'=>∃o fj H',((o=.next/\f=.next)\/∃v y,o=.ret v/\f=.ret y/\RV B.Z s'.heap v y)/\Rel B H' s'.heap/\eD B H' s'.heap env ρ fj/\Step B.Z (FA env) ro H s H' s'/\Q o fj H'
section
variable (B : Base) (n : Nat) (C : CS) (sc : Scope) (ρ : fS) (ro : Bool)
noncomputable def SS(st:St)(x:Stmt):Prop:=∀(A:Around) (H:Mine.H) (s:Shared) (env:Env) (fr:Mine.Fr) (Q:Out->Mine.Fr->Mine.H->Prop),j6 n A->env.scope=sc->eD B H s.heap env ρ fr->Rel B H s.heap->wS C st fr Q H->
 wpAny (model B.prog B.w) A (exec x env) (PF B ro H s env ρ Q) dq s
noncomputable def SB(ss:Ss)(xs:List Stmt):Prop:=∀(A:Around) (H:Mine.H) (s:Shared) (env:Env) (fr:Mine.Fr) (Q:Out->Mine.Fr->Mine.H->Prop),j6 n A->env.scope=sc->eD B H s.heap env ρ fr->Rel B H s.heap->wB C ss fr Q H->
 wpAny (model B.prog B.w) A (execs xs env) (PF B ro H s env ρ Q) dq s
end
noncomputable abbrev Al(ρ:fS):Prop:=∀x y i,ρ.lookup x=some i->ρ.lookup y=some i->x=y
section
variable {B : Base} {n : Nat} {C : CS} {sc : Scope} {ρ : fS} {ro : Bool} {A : Around} {H H' : Mine.H} {s s' : Shared} {env : Env} {fr : Mine.Fr} {Q : Out -> Mine.Fr -> Mine.H -> Prop}
theorem Step.toF(r:eD B H s.heap env ρ fr)(S:Step B.Z bH ro H s H' s'):Step B.Z (FA env) ro H s H' s':=S.within (λ u0 u0 f=>f.elim) λ a O e f=>(r.ow a f).2.1 (.inl ⟨O,e⟩)
theorem gC(R:Rel B H s.heap)(S:Step B.Z (FA env) ro H s H' s'):PF B ro H' s' env ρ Q f oB->PF B ro H s env ρ Q f oB:=
 λ hP=>by refine CH hP λ o fj nR a b c d e=>?_;exact⟨o,fj,nR,a,b,c,S.both R d,e⟩
theorem A4(R:Rel B H s.heap)(S:Step B.Z (FA env) ro H s H' s')(h:wpAny (model B.prog B.w) A m (PF B ro H' s' env ρ Q) dq s'):wpAny (model B.prog B.w) A m (PF B ro H s env ρ Q) dq s':=
 cW h (λ f oB=>gC R S) λ u0 u0 x=>x
theorem xa(hs:env.scope=sc)(h:d5 sc ρ y i=true):ρ.lookup y=some i/\(env.kindOf y=some .local\/env.kindOf y=some .cell):=by
 unfold d5 at h
 refine bV (bm (bm h).1) λ h1 h2=>?_
 refine⟨eq_of_beq h1,?_⟩
 unfold Env.kindOf;rw[hs]
 exact(sG h2).imp eq_of_beq eq_of_beq
theorem lM{W:Unit->Shared->Prop}{E:Value->Shared->Prop}(inj:Al ρ)(hs:env.scope=sc)(hy:d5 sc ρ y i=true)(r:eD B H s.heap env ρ fr)(R:Rel B H s.heap)(rv:RV B.Z s.heap v x)
  (h:∀s',Rel B H s'.heap->Step B.Z (FA env) ro H s H s'->eD B H s'.heap env ρ (fr.set i (some v))->W () s'):wpAny (model B.prog B.w) A (storeName env y x) W E s:=
 r.store R inj (xa hs hy).1 (xa hs hy).2 rv λ s' a b c=>h s' a (b.weaken λ u0=>rfl) c
theorem Om{p pos:Pos}(inj:Al ρ)(hy:d5 sc ρ y i=true)(ih:SE B n C sc ρ ro e v)(Fe:∀env:Env,env.scope=sc->env.scope.kind=.function->swapsWith v (some (.Name y p)) pos.line env=pure false):SS B n C sc ρ ro (.asg i e) (.Assign [.Name y p] v pos):=
 λ A H s env fr Q oa hs r R hw=>wpAny_Assign_Name (bM R (ih _ _ _ _ _ _ oa hs r R hw) λ w x H' s' rv R' S q=>lM inj hs hy (r.go S) R' rv λ s2 R2 S2 r2=>gC R (S.toF r) ⟨.next,_,H',.inl ⟨rfl,rfl⟩,R2,r2,S2,q⟩) (Fe env hs r.fk)
theorem BX:swapsWith v (some (.Attribute o a p)) l env=pure false:=by cases v<;>rfl
theorem EZ:swapsWith v (some (.Subscript o i p)) l env=pure false:=by cases v<;>rfl
theorem Ld(kf:KF B){p pos:Pos}(MY:SE B n C sc ρ ro o x)(ih:SE B n C sc ρ ro e v):SS B n C sc ρ ro (.cI o a e) (.Assign [.Attribute x (gz a) p] v pos):=
 λ A H s env fr Q oa hs r R hw=>plainObj_wpAny_Assign_Attribute (bM R (ih _ _ _ _ _ _ oa hs r R hw) λ w y H' s' rv R' S q=>bM R' (MY _ _ _ _ _ _ oa hs (r.go S) R' q) λ w2 y2 H2 s2 vr R2 S2 q=>by
  unfold Pw yi at q
  refine im q λ b c fs ak bA=>?_;obtain rfl:=ak;refine gM bA λ e1 e2 e3 q=>?_
  obtain rfl:=eI vr
  refine cW (ED (ro:=ro) kf R2 e1 (rv.grow S2.grow) e2 e3 (K:=λ h=>Q .next fr h) q) (λ u0 s3 hP=>?_) λ u0 u0 x=>x
  refine ik hP λ H3 R3 S3 q=>?_
  have S':=(S.both R S2).both R S3
  exact⟨.next,fr,H3,.inl ⟨rfl,rfl⟩,R3,r.go S',S'.toF r,q⟩) BX
theorem Le{p pos:Pos}(MY:SE B n C sc ρ false o x)(Yg:SE B n C sc ρ false i k)(ih:SE B n C sc ρ false e v):SS B n C sc ρ false (.fu o i e) (.Assign [.Subscript x k p] v pos):=
 λ A H s env fr Q oa hs r R hw=>wpAny_Assign_Subscript (bM R (ih _ _ _ _ _ _ oa hs r R hw) λ w y H' s' rv R' S q=>bM R' (MY _ _ _ _ _ _ oa hs (r.go S) R' q) λ w2 y2 H2 s2 vr R2 S2 q=>bM R2 (Yg _ _ _ _ _ _ oa hs ((r.go S).go S2) R2 q) λ w3 y3 H3 s3 OI R3 S3 q=>
  cW (EB oa (vr.grow S3.grow) OI ((rv.grow S2.grow).grow S3.grow) R3 (K:=λ h=>Q .next fr h) q) (λ u0 s4 hP=>by
   refine ik hP λ H4 R4 S4 q=>?_
   have S':=((S.both R S2).both R S3).both R S4
   exact⟨.next,fr,H4,.inl ⟨rfl,rfl⟩,R4,r.go S',S'.toF r,q⟩) λ u0 u0 x=>x) EZ
theorem RH{pos:Pos}(hn:sv v=true)(ih:SE B n C sc ρ ro e v):SS B n C sc ρ ro (.ex e) (.Expr v pos):=
 λ A H s env fr Q oa hs r R hw=>wpAny_Expr (bM R (ih _ _ _ _ _ _ oa hs r R hw) λ w y H' s' rv R' S q=>by
  unfold Vv oL at q
  cases w with
  |none=>obtain rfl:=eX rv;exact⟨.next,fr,H',.inl ⟨rfl,rfl⟩,R',r.go S,S.toF r,q⟩
  |_=>exact q.elim) (by unfold interactive;rw[r.fk];rfl) (zc hn)
theorem On{pos:Pos}(ih:SE B n C sc ρ ro e v):SS B n C sc ρ ro (.ret e) (.Return (some v) pos):=
 λ A H s env fr Q oa hs r R hw=>wpAny_Return_some (bM R (ih _ _ _ _ _ _ oa hs r R hw) λ w y H' s' rv R' S q=>⟨.ret w,fr,H',.inr ⟨w,y,rfl,rfl,rv⟩,R',r.go S,S.toF r,q⟩)
theorem RI{pos:Pos}(ih:ST B n C sc ρ ro c x)(Tz:SB B n C sc ρ ro t a)(lA:SB B n C sc ρ ro f b):SS B n C sc ρ ro (.ite c t f) (.If x a b pos):=
 λ A H s env fr Q oa hs r R hw=>wpAny_If (vy R (ih _ _ _ _ _ _ oa hs r R hw) λ b H' s' R' S q=>by
  cases b with
  |true=>rw[if_pos rfl];exact A4 R (S.toF r) (Tz _ _ _ _ _ _ oa hs (r.go S) R' q)
  |false=>rw[if_neg kX];exact A4 R (S.toF r) (lA _ _ _ _ _ _ oa hs (r.go S) R' q))
theorem Oo:SB B n C sc ρ ro .nil []:=λ A H s env fr Q oa hs r R hw=>
 wpAny_execs_nil ⟨.next,fr,H,.inl ⟨rfl,rfl⟩,R,r,Step.toF r (.refl ro H s),hw⟩
theorem Lf{st:St}(ih:SS B n C sc ρ ro st x)(lA:SB B n C sc ρ ro ss xs):SB B n C sc ρ ro (.cons st ss) (x::xs):=λ A H s env fr Q oa hs r R hw=>
 wpAny_execs_cons (cW (ih _ _ _ _ _ _ oa hs r R hw) (λ f s' hP=>by
  refine CH hP λ o fj H' ho R' r' S q=>?_
  rcases ho with⟨rfl,rfl⟩|⟨v,y,rfl,rfl,rv⟩
  ·exact A4 R S (lA _ _ _ _ _ _ oa hs r' R' q)
  ·exact⟨.ret v,fj,H',.inr ⟨v,y,rfl,rfl,rv⟩,R',r',S,q⟩) λ u0 u0 x=>x)
end
noncomputable def nB(sc:Scope)(ρ:fS):List Expr->List Nat->Bool
 |[],is=>is.isEmpty
 |t::ts,is=>match is with
  |i::is=>((rj t).any λ y=>d5 sc ρ y.1.1 i)&&nB sc ρ ts is
  |[]=>false
section
variable {B : Base} {n : Nat} {C : CS} {sc scope : Scope} {ρ : fS} {ro rb : Bool} {A : Around} {H H' : Mine.H} {s s' : Shared} {env : Env} {fr : Mine.Fr} {Q : Out -> Mine.Fr -> Mine.H -> Prop}
theorem mQ(h:nB sc ρ (t::ts) is=true):∃y p i js,t=.Name y p/\is=i::js/\d5 sc ρ y i=true/\nB sc ρ ts js=true:=by
 cases is with
 |nil=>exact kK h
 |cons i js=>
  refine bV (bm (a:=(rj t).any λ(y:F7 t)=>d5 sc ρ y.1.1 i) (b:=nB sc ρ ts js) h) λ h1 h2=>?_
  refine aK (aw h1) λ y h4=>?_
  exact⟨y.1.1,y.1.2,i,js,y.2,rfl,h4,h2⟩
theorem qL:∀{ts:List Expr} {is:List Nat},nB sc ρ ts is=true->ts.length=is.length:=by
 intro xR
 induction xR with
 |nil=>
  intro is h
  cases is with|nil=>rfl|cons _ _=>exact kK h
 |cons t ts aU=>
  intro is h
  refine DK (mQ h) λ u0 u0 u0 u0 u0 ak bA=>?_;obtain rfl:=ak;refine bV bA λ u0 h=>?_;simp[aU h]
theorem Lh:∀{ts:List Expr} {is:List Nat},nB sc ρ ts is=true->(assignEach ts env).length=ts.length/\(assignEach ts env).findIdx? (·.1)=none:=by
 intro xR
 induction xR with
 |nil=>
  intro is h
  exact⟨rfl,rfl⟩
 |cons t ts aU=>
  intro is h
  refine E7 (mQ h) λ y p u0 u0 ak bA=>?_;obtain rfl:=ak;refine bV bA λ Fd MV=>?_;obtain rfl:=Fd;refine bV MV λ u0 h=>?_
  refine bV (aU h) λ a b=>?_
  have e:assignEach (.Name y p::ts) env=(false,assign (.Name y p) env)::assignEach ts env:=rfl
  rw[e]
  exact⟨by simp[a],by rw[List.findIdx?_cons];simp[b]⟩
theorem Li(inj:Al ρ)(hs:env.scope=sc):∀{ts:List Expr} {is:List Nat} {l:List V} {xs:List Value} {s:Shared} {fr fj:Mine.Fr} {W:Unit->Shared->Prop} {E:Value->Shared->Prop},nB sc ρ ts is=true->fD is l fr=some fj->cx B.Z s.heap l xs->eD B H s.heap env ρ fr->Rel B H s.heap->
  (∀s',Rel B H s'.heap->Step B.Z (FA env) ro H s H s'->eD B H s'.heap env ρ fj->W () s')->wpAny (model B.prog B.w) A (assignInOrder ((assignEach ts env).map (·.2)) xs) W E s:=by
 intro xR
 induction xR with
 |nil=>
  intro is l xs s fr fj W E h hm rl r R k
  cases is with
  |cons _ _=>exact kK h
  |nil=>
   cases l with
   |cons _ _=>exact dD hm
   |nil=>
    obtain rfl:=c8 hm
    exact a8 (k s R (Step.toF r (.refl ro H s)) r)
 |cons t ts aU=>
  intro is l xs s fr fj W E h hm rl r R k
  refine E7 (mQ h) λ y p i js ak bA=>?_;obtain rfl:=ak;refine bV bA λ Fd MV=>?_;obtain rfl:=Fd;refine bV MV λ hy h=>?_
  cases l with
  |nil=>exact dD hm
  |cons v l=>
   refine fh rl λ u0 u0 ak bA=>?_;obtain rfl:=ak;refine bV bA λ rv rl=>?_
   ·have e:assignEach (.Name y p::ts) env=(false,assign (.Name y p) env)::assignEach ts env:=rfl
    rw[e,List.map_cons]
    refine aq (wpAny_holding (wpAny_assign_Name (lM (ro:=ro) inj hs hy r R rv λ s' R' S' r'=>?_)))
    exact aU h hm (rl.grow S'.grow) r' R' λ s2 R2 S2 r2=>k s2 R2 (S'.both R S2) r2
theorem zg(R:Rel B H s.heap)(r:eD B H s.heap env ρ fr)(k:∀b o,s.heap.get? b=some o->h'.get? b=some o):Rel B H h'/\Step B.Z bH ro H s H {s with heap:=h',toks:=tk}:=
 by refine bV (R.quiet (tk:=tk) k) λ a b=>?_;exact⟨a,b.weaken λ u0=>rfl⟩
theorem ot(inj:Al ρ)(hs:env.scope=sc)(hh:A.handled=none){pos:Pos}{W:Unit->Shared->Prop}{E:Value->Shared->Prop}(h:nB sc ρ ts is=true)(hm:fD is l fr=some fj)(rx:RV B.Z s.heap (.tup l) x)
  (r:eD B H s.heap env ρ fr)(R:Rel B H s.heap)(kk:∀s',Rel B H s'.heap->Step B.Z (FA env) ro H s H s'->eD B H s'.heap env ρ fj->W () s'):wpAny (model B.prog B.w) A (assign (.Tuple ts k pos) env x) W E s:=by
 refine im (ie rx) λ a xs m ak bA=>?_;obtain rfl:=ak;refine gM bA λ e z rl hsz=>?_
 have cT:is.length=l.length:=by
  have:∀{is:List Nat} {l:List V} {fr fj:Mine.Fr},fD is l fr=some fj->is.length=l.length:=by
   intro is
   induction is with
   |nil=>intro l fr fj h;cases l with|nil=>rfl|cons _ _=>exact dD h
   |cons i is ih=>intro l fr fj h;cases l with|nil=>cases h|cons v l=>simp[ih h]
  exact this hm
 refine bV (Lh (env:=env) h) λ e1 e2=>?_
 refine wpAny_assign_Tuple (items:=xs) hh ⟨_,e,rfl,m,rfl⟩ (by rw[e1,qL h,cT,hsz]) e2 λ h' he=>?_
 have TN:∀b o,s.heap.get? b=some o->h'.get? b=some o:=λ b o eb=>he b o (Nat.ne_of_lt (iI eb)) eb
 refine bV (zg (ro:=ro) (tk:=s.toks) R r TN) λ R' S=>?_
 exact Li (s:={s with heap:=h'}) inj hs h hm (rl.grow S.grow) (r.go S) R' λ s2 R2 S2 r2=>kk s2 R2 ((Step.toF r S).both R S2) r2
noncomputable def pF(v:Expr)(k:Nat):Bool:=match v with
 | .Tuple vs _ _=>vs.length==k&&vs.all aN&&!(vs.all (constantsAlone 8))
 | .List .. =>false
 |_=>true
theorem pG{α:Type _}{c:Bool}{a b X:α}(h:(if c=true then a else b)=X):a=X\/(c=false/\b=X):=by
 cases c
 ·exact .inr ⟨rfl,h⟩
 ·exact .inl h
theorem zh{α:Type _}{c:Bool}{y:α}:(if c=true then some y else none)=some y\/(if c=true then some y else none)=none:=by
 cases c
 ·exact .inr rfl
 ·exact .inl rfl
theorem E0(hl:ts.length=4):swappedStores [.Tuple ts k p] v env=pure none:=by
 cases v<;>first|rfl|skip
 exact if_pos (by rw[hl];rfl)
theorem Oq{f:Expr->Option Str}(ha:f a=some y\/f a=none)(hb:f b=some z\/f b=none)(hl:(List.filterMap f [a,b]).length=2):List.filterMap f [a,b]=[y,z]:=by
 rcases ha with ha|ha<;>rcases hb with hb|hb<;>simp[ha,hb] at hl⊢
set_option tactic.hygienic true in
theorem Iv {y z : Str} {p q : Pos} {v : Expr} {k : Nat} {pos : Pos} (hv : pF v 2 = true) {X : Sem (Option (List Str))} (hX : swappedStores [.Tuple [.Name y p, .Name z q] k pos] v env = X) : X = pure none \/ X = pure (some [y, z]) := by
  cases v <;> first | (left; exact hX.symm; done) | skip
  rename_i vs kk pp
  refine fy (cu (show (vs.length == 2 && vs.all aN && !(vs.all (constantsAlone 8))) = true from hv)) λ h1 h2 h3 => ?_
  have h3 : vs.all (constantsAlone 8) = false := Bool.not_eq_true' _ |>.mp h3
  rcases pG hX with e | ⟨_, hX⟩
  · exact .inl e.symm
  rcases pG hX with e | ⟨_, hX⟩
  · exact .inl e.symm
  rcases pG hX with e | ⟨c, hX⟩
  · exact .inl e.symm
  rcases pG hX with e | ⟨_, hX⟩
  · exact .inl e.symm
  have hX := (if_neg (by rw [h3]; exact kX)).symm.trans hX
  refine .inr (hX.symm.trans (congrArg (λ l => (pure (some l) : Sem (Option (List Str)))) (Oq zh zh ?_)))
  exact gS ((Bool.not_eq_false' ..).mp (Bool.or_eq_false_iff.mp c).1)
theorem wb{K:Mine.Fr->Prop}(h:nW x K):∃fj,x=some fj/\K fj:=by
 unfold nW at h
 cases x with
 |none=>exact h.elim
 |some fj=>exact⟨fj,rfl,h⟩
theorem tI{K:Mine.Fr->Prop}(h:yp is v fr K):∃l fj,v=.tup l/\fD is l fr=some fj/\K fj:=by
 unfold yp at h
 cases v with
 |tup l=>
  refine aG (wb (show nW (fD is l fr) K from h)) λ fj a b=>?_
  exact⟨l,fj,rfl,a,b⟩
 |_=>exact h.elim
theorem Lj(jN:i≠j)(h:fD [i,j] l fr=some fj):fD [j,i] l.reverse fr=some fj:=by
 cases l with
 |nil=>exact dD h
 |cons a l=>cases l with
  |nil=>exact dD h
  |cons b l=>cases l with
   |cons _ _=>exact dD h
   |nil=>
    have h:some ((fr.set i (some a)).set j (some b))=some fj:=h
    show some ((fr.set j (some b)).set i (some a))=some fj
    rw[←h,List.set_comm _ _ jN]
theorem Iw{p q pos xY:Pos}(inj:Al ρ)(hy:d5 sc ρ y i=true)(hz:d5 sc ρ z j=true)(jN:i≠j)(hv:pF v 2=true)(ih:SE B n C sc ρ ro e v):
  SS B n C sc ρ ro (.sH [i,j] e) (.Assign [.Tuple [.Name y p,.Name z q] k xY] v pos):=λ A H s env fr Q oa hs r R hw=>by
 have ok:∀{y z:Str} {p q:Pos} {i j:Nat},d5 sc ρ y i=true->d5 sc ρ z j=true->nB sc ρ [.Name y p,.Name z q] [i,j]=true:=λ a b=>Bool.and_eq_true_iff.mpr ⟨a,Bool.and_eq_true_iff.mpr ⟨b,rfl⟩⟩
 have Fe:swapsWithSole [.Tuple [.Name y p,.Name z q] k xY] v pos.line env=pure false:=by cases v<;>rfl
 rcases Iv (env:=env) (p:=p) (q:=q) (pos:=xY) (k:=k) (y:=y) (z:=z) hv rfl with sw|sw
 ·refine wpAny_Assign_stores (bM R (ih _ _ _ _ _ _ oa hs r R hw) λ w x H' s' rv R' S q=>?_) Fe sw
  refine fh (tI q) λ l fj ak bA=>?_;obtain rfl:=ak;refine bV bA λ hm q=>?_
  show wpAny _ A (assign (.Tuple [.Name y p,.Name z _] k xY) env x) _ _ _
  exact ot inj hs oa.hh (ok hy hz) hm rv (r.go S) R' λ s2 R2 S2 r2=>gC R (S.toF r) ⟨.next,fj,H',.inl ⟨rfl,rfl⟩,R2,r2,S2,q⟩
 ·rw[exec_Assign_arm,Fe,sw]
  refine aq (wpAny_standAt (aq (a8 ?_)))
  rw[if_neg kX]
  refine aq (bM R (ih _ _ _ _ _ _ oa hs r R hw) λ w x H' s' rv R' S q=>aq (a8 ?_))
  refine fh (tI q) λ l fj ak bA=>?_;obtain rfl:=ak;refine bV bA λ hm q=>?_
  refine im (ie rv) λ a xs m ak bA=>?_;obtain rfl:=ak;refine gM bA λ ea za rl hsz=>?_
  have qs:l.length=2:=by
   cases l with
   |nil=>exact dD hm
   |cons a l=>cases l with
    |nil=>exact dD hm
    |cons b l=>cases l with
     |nil=>rfl
     |cons _ _=>exact dD hm
  show wpAny _ A (rule "assign.swapped-stores">>=λ u0=>unpackItems (.ref a) 2 none>>=λ items=>assignInOrder ([bindName env z,bindName env y]) items.reverse>>=λ u0=>pure Flow.next) _ _ _
  refine aq (wpAny_rule (aq ?_))
  rw[←qs,←hsz]
  refine wpAny_unpackItems_tuple (items:=xs) oa.hh ⟨_,ea,rfl,m,rfl⟩ λ h' he=>?_
  have TN:∀b o,s'.heap.get? b=some o->h'.get? b=some o:=λ b o eb=>he b o (Nat.ne_of_lt (iI eb)) eb
  refine bV (zg (ro:=ro) (tk:=s'.toks) R' (r.go S) TN) λ R2 S2=>?_
  have kL:=Lj jN hm
  have rr:=(rl.grow S2.grow).reverse
  generalize l.reverse=l2 at kL rr
  generalize xs.toList.reverse=Y0 at rr
  cases l2 with
  |nil=>exact dD kL
  |cons v1 l2=>cases l2 with
   |nil=>exact dD kL
   |cons v2 l2=>cases l2 with
    |cons _ _=>exact dD kL
    |nil=>
     refine fh (Jl rr) λ x1 x2 ak bA=>?_;obtain rfl:=ak;refine bV bA λ r1 r2=>?_
     have kL:some ((fr.set j (some v1)).set i (some v2))=some fj:=kL
     have hr:=(r.go S).go (s:=s') (s':={s' with heap:=h'}) S2
     refine aq (aq (wpAny_holding (wpAny_bindName (lM (ro:=ro) inj hs hz hr R2 r1 λ s3 R3 S3 r3=>aq (wpAny_holding (wpAny_bindName (lM (ro:=ro) inj hs hy r3 R3 (r2.grow S3.grow) λ s4 R4 S4 r4=>a8 (a8 ?_))))))))
     injection kL with kL
     exact gC R (S.toF r) ⟨.next,fj,H',.inl ⟨rfl,rfl⟩,R4,kL ▸ r4,((Step.toF (r.go S) S2).both R' S3).both R' S4,q⟩
theorem Ix{pos xY:Pos}(inj:Al ρ)(ht:nB sc ρ ts is=true)(hl:ts.length=4)(ih:SE B n C sc ρ ro e v):
  SS B n C sc ρ ro (.sH is e) (.Assign [.Tuple ts k xY] v pos):=λ A H s env fr Q oa hs r R hw=>by
 have Fe:swapsWithSole [.Tuple ts k xY] v pos.line env=pure false:=by cases v<;>rfl
 refine wpAny_Assign_stores (bM R (ih _ _ _ _ _ _ oa hs r R hw) λ w x H' s' rv R' S q=>?_) Fe (E0 hl)
 refine fh (tI q) λ l fj ak bA=>?_;obtain rfl:=ak;refine bV bA λ hm q=>?_
 show wpAny _ A (assign (.Tuple ts k xY) env x) _ _ _
 exact ot inj hs oa.hh ht hm rv (r.go S) R' λ s2 R2 S2 r2=>gC R (S.toF r) ⟨.next,fj,H',.inl ⟨rfl,rfl⟩,R2,r2,S2,q⟩
theorem BY{cond:Es}{px pos p Js:Pos}(inj:Al ρ)(hy:d5 sc ρ y i=true)
  (ok:nZ scope sc ρ z bp)(hn:fz mJ=true)(LD:SI B n C sc ρ ro it mJ)(hE:∀Z',SE (B.with Z') n C (oK scope sc) ((z,bp)::ρ) rb gy yb)(hC:∀Z',rK (ST (B.with Z') n C (oK scope sc) ((z,bp)::ρ) rb) cond AG)
  (LF:MZ it (.Name z px))(rD:ro=true->rb=true)(LG:yd it=true->rb=true):SS B n C sc ρ ro (.asg i (.comp gy bp it cond)) (.Assign [.Name y p] (.ListComp yb [⟨.Name z px,mJ,AG,0⟩] scope pos) Js):=λ A H s env fr Q oa hs r R hw=>by
 have Fe:∃b,swapsWith (.ListComp yb [⟨.Name z px,mJ,AG,0⟩] scope pos) (some (.Name y p)) Js.line env=pure b:=⟨_,rfl⟩
 refine aK Fe λ b Fe=>?_
 cases b with
 |false=>exact wpAny_Assign_Name (bM R (GJ ok hn LD hE hC LF rD LG _ _ _ _ _ _ oa hs r R hw) λ w x H' s' rv R' S q=>lM inj hs hy (r.go S) R' rv λ s2 R2 S2 r2=>gC R (S.toF r) ⟨.next,_,H',.inl ⟨rfl,rfl⟩,R2,r2,S2,q⟩) Fe
 |true=>
  rw[exec_Assign_Name_used _ _ _ _ Fe]
  refine aq (wpAny_standAt (aq ?_))
  show wpAny _ A (do let _←comprehension (.ListComp yb [⟨.Name z px,mJ,AG,0⟩] scope pos) scope env _ (newList []) false (eval mJ env) (some (assign (.Name y p) env))) _ _ s
  refine aq (cW (wpAny_comprehension_free (use:=some (assign (.Name y p) env)) (Q:=λ u0 s'=>PF B ro H s env ρ Q .next s') rfl (λ x=>AX hn x) (tU (r.cellsOf hs ok)) ok.kd (λ x m e=>(ok.lc x m e).1)
   (vY ok LD hE hC LF rD LG oa hs r R hw λ D Cx H' σ m L c rv q ns=>?_)) (λ u0 s' hq=>a8 (a8 hq)) λ u0 u0 e=>e)
  show wpAny _ A (assign (.Name y p) env (.ref D)) _ _ σ
  refine wpAny_assign_Name (lM (B:=B.with (λ b=>B.Z b\/b=Cx)) (ro:=ro) inj hs hy L.Ai L.rel rv λ s2 R2 S2 r2=>?_)
  have nf:∀b,one Cx b->¬FA env b:=λ b e f=>c.fa r b f e
  have L':LS B (λ b=>B.Z b\/b=Cx) (one Cx) (FA env) ro H s env ρ fr H' σ:=⟨L.rel,L.Ai,L.step.toF r,L.own⟩
  have L2:=L'.body c R id S2 R2 r2
  refine⟨m,ns.at' λ o e=>S2.keep Cx o e (L.own Cx rfl) (nf Cx rfl),λ h' rC=>?_⟩
  have c0:LC B B.Z bH s:=⟨λ u0=>id,λ u0=>False.elim,λ u0=> .inl,λ u0=>False.elim⟩
  have L3:=L2.shrink c c0 R r (J:=one Cx) (h':=h') (tk:=s2.toks) (λ u0=>id) (λ u0=>False.elim) λ b o n e=>(rC.2 b n).trans e
  exact⟨.next,_,H',.inl ⟨rfl,rfl⟩,L3.rel,L3.Ai,L3.step,q⟩
end
noncomputable def CD(sc:Scope)(ρ:fS)(tgt:Expr)(is:List Nat):Bool:=(is.length==1&&nB sc ρ [tgt] is)||(is.length==2&&(Nt tgt).any λ ts=>nB sc ρ ts.1.1 is)
section
variable {B : Base} {n : Nat} {C : CS} {sc scope : Scope} {ρ : fS} {ro rb : Bool} {A : Around} {H H' : Mine.H} {s s' : Shared} {env : Env} {fr : Mine.Fr} {Q : Out -> Mine.Fr -> Mine.H -> Prop}
theorem BZ(inj:Al ρ)(hs:env.scope=sc)(hh:A.handled=none){W:Unit->Shared->Prop}{E:Value->Shared->Prop}(h:CD sc ρ tgt is=true)(hm:lO is v fr=some fj)(rx:RV B.Z s.heap v x)
  (r:eD B H s.heap env ρ fr)(R:Rel B H s.heap)(kk:∀s',Rel B H s'.heap->Step B.Z (FA env) ro H s H s'->eD B H s'.heap env ρ fj->W () s'):wpAny (model B.prog B.w) A (assign tgt env x) W E s:=by
 rcases sG h with h|h
 ·refine bV (bm h) λ h1 h2=>?_
  refine E7 (mQ h2) λ y p i js ak bA=>?_;obtain rfl:=ak;refine bV bA λ Fd MV=>?_;obtain rfl:=Fd;refine bV MV λ hy u0=>?_
  cases js with
  |cons _ _=>exact absurd h1 (by simp)
  |nil=>
   have hm:some (fr.set i (some v))=some fj:=hm
   injection hm with hm
   subst hm
   exact wpAny_assign_Name (lM inj hs hy r R rx kk)
 ·refine bV (bm h) λ h1 h2=>?_
  refine aK (aw h2) λ ak h4=>?_;obtain⟨⟨ts,k,p⟩,rfl⟩:=ak
  have h1:is.length=2:=eq_of_beq h1
  cases is with
  |nil=>injection h1
  |cons i js=>cases js with
   |nil=>cases h1
   |cons j js=>cases js with
    |cons _ _=>simp at h1
    |nil=>
     cases v with
     |tup l=>
      cases l with
      |nil=>exact dD hm
      |cons a l=>cases l with
       |nil=>exact dD hm
       |cons b l=>cases l with
        |cons _ _=>exact dD hm
        |nil=>exact ot inj hs hh h4 (show fD [i,j] [a,b] fr=some fj from hm) rx r R kk
     |_=>exact dD hm
theorem Iter.Iy{Z' I W:Nat->Prop}{dG:Mine.H->Prop}{St:Nat->Heap->Prop}{E:Value->Shared->Prop}{Q0:Shared->Prop}{M2:Value->Sem Unit}{Q2:Unit->Shared->Prop}
  (it:Iter B Z' tgt sF I W items dG St)(oa:A.handled=none)(st:St i σ.heap)(R:Rel (B.with Z') Hi σ.heap)(own:∀b,I b->¬j5 Hi σ.heap b)(hc:dG Hi)(hv:items[i]?=some v)
  (h:∀y h' tk,RV Z' h' v y->St (i+1) h'->(∀b o,¬I b->σ.heap.get? b=some o->h'.get? b=some o)->wpAny (model B.prog B.w) A (M2 y) Q2 E {σ with heap:=h',toks:=tk}):
  wpAny (model B.prog B.w) A (pyNext sF) (λ r aW=>match r with|none=>Q0 aW|some v=>wpAny (model B.prog B.w) A (letOwnedTupleGo tgt sF v) (λ u0 oI=>wpAny (model B.prog B.w) A (M2 v) Q2 E oI) E aW) E σ:=by
 refine cW (it.item (E:=E) (Q:=λ r aW=>match r with|none=>Q0 aW|some v=>wpAny (model B.prog B.w) A (M2 v) Q2 E aW) oa st R own hc hv h) (λ r aW h=>?_) λ u0 u0 x=>x
 cases r with
 |none=>exact h
 |some y=>exact h
theorem Ot{pos:Pos}(inj:Al ρ)(LD:SI B n C sc ρ ro it mJ)(hb:∀Z',SB (B.with Z') n C sc ρ rb b body)(ht:CD sc ρ tgt is=true)(hn:fz mJ=true)(LF:MZ it tgt)
  (rD:ro=true->rb=true)(LG:yd it=true->rb=true):SS B n C sc ρ ro (.cz is it b) (.For tgt mJ body [] pos):=λ A H s env fr Q oa hs r R hw=>by
 refine wpAny_For (cW (LD (tgt:=tgt) (ks:=rb) _ _ _ _ _ _ oa hs r R LF LG hw) (λ x aW h=>cW h (λ sF s2 h=>?_) λ u0 u0 x=>x) λ u0 u0 x=>x) (λ x=>AX hn x)
 obtain⟨H1,s1,R1,S1,I,W,items,dG,hI,kk,Gi,hW,cT,mk,hw⟩:=h
 have r1:=r.go S1
 have c:LC B (λ b=>B.Z b\/I b) I s1:=⟨λ b=> .inl,λ b=> .inr,λ b=>id,λ b i=>(hI b i).1⟩
 have c0:LC B B.Z bH s1:=⟨λ u0=>id,λ u0=>False.elim,λ u0=> .inl,λ u0=>False.elim⟩
 have nf:∀b,I b->¬FA env b:=λ b i f=>c.fa r1 b f i
 refine aG (mk (λ b=>B.Z b\/I b) (λ b=> .inr) λ b z u0=>z) λ St LH st=>?_
 have L1:=LS.start (ro:=ro) R1 r1 Gi kk c λ b i=>(hI b i).2
 have L1:LS B (λ b=>B.Z b\/I b) I (FA env) ro H1 s1 env ρ fr H1 s2:=⟨L1.rel,L1.Ai,L1.step.toF r1,L1.own⟩
 unfold Px cw at hw
 refine codeAny_forLoop_any (λ k σ=>∃i Hi I1,k=items.length+1-i/\i<=items.length/\St i σ.heap/\LS B (λ b=>B.Z b\/I b) I (FA env) ro H1 s1 env ρ I1 Hi σ/\B9 is (wB C b) dG (items.drop i) I1 Q Hi) ?_ _ ⟨0,H1,fr,rfl,dz _,st,L1,hw⟩
 rintro k σ ⟨i,Hi,I1,hk,hi,st,L,w⟩
 by_cases CQ:i<items.length
 ·have hv:items[i]?=some items[i]:=kH CQ
  rw[List.drop_eq_getElem_cons CQ] at w
  refine bV w λ hc w=>?_
  generalize items[i]=v at hv w
  refine LH.Iy (M2:=λ v=>assign tgt env v) oa.hh st L.rel L.own hc hv λ x h1 tk rx ye k1=>?_
  have L2:=L.turn c R1 r1 (tk:=tk) k1 λ b q=>LH.live ye b q
  refine aG (wb w) λ fj e w=>?_
  refine BZ (B:=B.with λ b=>B.Z b\/I b) (ro:=rb) inj hs oa.hh ht e rx L2.Ai L2.rel λ s3 R3 S3 r3=>?_
  refine cW (hb (λ b=>B.Z b\/I b) _ _ _ _ _ _ oa hs r3 R3 w) (λ f s4 hP=>?_) λ u0 u0 f=>f.elim
  refine CH hP λ o Pm H4 ho R4 r4 S4 w=>?_
  have SJ:=S3.both L2.rel S4
  have L4:=L2.body c R1 rD SJ R4 r4
  have O0:=L2.keep (λ u0=>id) nf LH hW hc ye SJ
  rcases ho with⟨rfl,rfl⟩|⟨v,y,rfl,rfl,rv⟩
  ·exact⟨items.length+1-(i+1),SP hk (Nat.le_of_lt CQ),i+1,H4,Pm,rfl,CQ,O0,L4,w⟩
  ·have L5:=L4.shrink c c0 R1 r1 (J:=bH) (h':=s4.heap) (tk:=s4.toks) (λ u0=>False.elim) (λ u0=>False.elim) λ u0 u0 u0 e=>e
   exact gC R (S1.toF r) ⟨.ret v,Pm,H4,.inr ⟨v,y,rfl,rfl,rv.less λ u0 z u0=> .inl z⟩,L5.rel,L5.Ai,L5.step,w⟩
 ·have e:i=items.length:=dP hi (Nat.not_lt.mp CQ)
  subst e
  rw[List.drop_of_length_le (bE _)] at w
  refine bV w λ hc w=>?_
  refine LH.vX oa.hh st L.rel L.own hc λ h1 tk k1=>wpAny_execs_nil ?_
  have L5:=L.shrink c c0 R1 r1 (J:=I) (h':=h1) (tk:=tk) (λ u0=>id) (λ u0=>False.elim) k1
  exact gC R (S1.toF r) ⟨.next,I1,Hi,.inl ⟨rfl,rfl⟩,L5.rel,L5.Ai,L5.step,w⟩
theorem Iz{pos:Pos}(ih:ST B n C sc ρ ro c x)(hb:SB B n C sc ρ ro b body):SS B n C sc ρ ro (.wh c b) (.While x body [] pos):=λ A H s env fr Q oa hs r R hw=>by
 have hw:ta (wE C c) (wB C b) fr Q H:=hw
 unfold ta at hw
 refine aK hw λ k hw=>?_
 unfold cj at hw
 refine wpAny_While (codeAny_whileLoop (λ k σ=>∃Hi I1,Rel B Hi σ.heap/\eD B Hi σ.heap env ρ I1/\Step B.Z (FA env) ro H s Hi σ/\so (wE C c) (wB C b) k I1 Q Hi) ?_ k ⟨H,fr,R,r,Step.toF r (.refl ro H s),hw⟩)
 rintro k σ ⟨Hi,I1,Ri,ri,Si,w⟩
 cases k with
 |zero=>exact w.elim
 |succ k=>
  refine cW (ih _ _ _ _ _ _ oa hs ri Ri w) (λ t s2 hP=>?_) λ u0 u0 f=>f.elim
  refine ik hP λ H2 R2 S2 w=>?_
  have Wh:=Si.both R (S2.toF ri)
  cases t with
  |false=>
   rw[if_neg kX]
   exact wpAny_execs_nil ⟨.next,I1,H2,.inl ⟨rfl,rfl⟩,R2,ri.go S2,Wh,w⟩
  |true=>
   rw[if_pos rfl]
   refine cW (hb _ _ _ _ _ _ oa hs (ri.go S2) R2 w) (λ f s4 hP=>?_) λ u0 u0 f=>f.elim
   refine CH hP λ o Pm H4 ho R4 r4 S4 w=>?_
   have Wi:=Wh.both R S4
   rcases ho with⟨rfl,rfl⟩|⟨v,y,rfl,rfl,rv⟩
   ·exact⟨k,Nat.lt_succ_self _,H4,Pm,R4,r4,Wi,w⟩
   ·exact⟨.ret v,Pm,H4,.inr ⟨v,y,rfl,rfl,rv⟩,R4,r4,Wi,w⟩
end
section
noncomputable abbrev Qg(x:Stmt):={q:Option Expr×Pos//x=.Return q.1 q.2}
noncomputable def Vb(x:Stmt):Option (Qg x):=if h:x.ctorIdx=3 then some (Stmt.Return.elim (motive_2:=Qg) x h λ a b=>⟨(a,b),rfl⟩) else none
noncomputable abbrev Qh(x:Stmt):={q:List Expr×Expr×Pos//x=.Assign q.1 q.2.1 q.2.2}
noncomputable def Jt(x:Stmt):Option (Qh x):=if h:x.ctorIdx=5 then some (Stmt.Assign.elim (motive_2:=Qh) x h λ a b c=>⟨(a,b,c),rfl⟩) else none
noncomputable abbrev Qi(x:Stmt):={q:Expr×Expr×List Stmt×List Stmt×Pos//x=.For q.1 q.2.1 q.2.2.1 q.2.2.2.1 q.2.2.2.2}
noncomputable def Vc(x:Stmt):Option (Qi x):=if h:x.ctorIdx=9 then some (Stmt.For.elim (motive_2:=Qi) x h λ a b c d e=>⟨(a,b,c,d,e),rfl⟩) else none
noncomputable abbrev Wj(x:Stmt):={q:Expr×List Stmt×List Stmt×Pos//x=.While q.1 q.2.1 q.2.2.1 q.2.2.2}
noncomputable def Yh(x:Stmt):Option (Wj x):=if h:x.ctorIdx=11 then some (Stmt.While.elim (motive_2:=Wj) x h λ a b c d=>⟨(a,b,c,d),rfl⟩) else none
noncomputable abbrev Qj(x:Stmt):={q:Expr×List Stmt×List Stmt×Pos//x=.If q.1 q.2.1 q.2.2.1 q.2.2.2}
noncomputable def Vd(x:Stmt):Option (Qj x):=if h:x.ctorIdx=12 then some (Stmt.If.elim (motive_2:=Qj) x h λ a b c d=>⟨(a,b,c,d),rfl⟩) else none
noncomputable abbrev Qk(x:Stmt):={q:Expr×Pos//x=.Expr q.1 q.2}
noncomputable def Ve(x:Stmt):Option (Qk x):=if h:x.ctorIdx=24 then some (Stmt.Expr.elim (motive_2:=Qk) x h λ a b=>⟨(a,b),rfl⟩) else none
noncomputable def GO:Ex->Bool
 | .comp .. =>true
 |_=>false
noncomputable def AC(is:List Nat):Bool:=match is with
 |[i,j]=>i !=j
 |_=>false
mutual
noncomputable def Wk:St->Bool
 | .asg _ e=>fU e
 | .sH _ e=>fU e
 | .cI o _ e=>fU o&&fU e
 | .fu _ _ _=>false
 | .ex e=>fU e
 | .ite c t f=>fU c&&uI t&&uI f
 | .wh c b=>fU c&&uI b
 | .cz _ it b=>OH it&&uI b
 | .ret e=>fU e
 | .wall=>true
noncomputable def uI:Ss->Bool
 | .nil=>true
 | .cons s ss=>Wk s&&uI ss
end
mutual
noncomputable def mS (sc:Scope) (ρ:fS):St->Stmt->Bool
 | .asg i e,x=>(Jt x).any λ q=>((nA q.1.1).any λ a=>(rj a.1).any λ y=>d5 sc ρ y.1.1 i)&&(GO e||sv q.1.2.1)&&mE sc ρ false e q.1.2.1
 | .sH is e,x=>(Jt x).any λ q=>((nA q.1.1).any λ a=>(Nt a.1).any λ ts=>nB sc ρ ts.1.1 is)&&((AC is&&pF q.1.2.1 2)||is.length==4)&&mE sc ρ false e q.1.2.1
 | .cI o a e,x=>(Jt x).any λ q=>((nA q.1.1).any λ b=>(F6 b.1).any λ p=>p.1.2.1==gz a&&mE sc ρ false o p.1.1)&&mE sc ρ false e q.1.2.1
 | .fu o i e,x=>(Jt x).any λ q=>((nA q.1.1).any λ b=>(Cm b.1).any λ p=>mE sc ρ false o p.1.1&&mE sc ρ false i p.1.2.1)&&mE sc ρ false e q.1.2.1
 | .ex e,x=>(Ve x).any λ v=>sv v.1.1&&mE sc ρ false e v.1.1
 | .ite c t f,x=>(Vd x).any λ q=>mE sc ρ true c q.1.1&&Ff sc ρ t q.1.2.1&&Ff sc ρ f q.1.2.2.1
 | .wh c b,x=>(Yh x).any λ q=>q.1.2.2.1.isEmpty&&mE sc ρ true c q.1.1&&Ff sc ρ b q.1.2.1
 | .cz is it b,x=>(Vc x).any λ q=>(CD sc ρ q.1.1 is&&fz q.1.2.1&&(SD it||is.length==2)&&(!yd it||uI b))&&q.1.2.2.2.1.isEmpty&&SF sc ρ it q.1.2.1&&Ff sc ρ b q.1.2.2.1
 | .ret e,x=>(Vb x).any λ q=>(xX q.1.1).any λ v=>mE sc ρ false e v.1
 | .wall,x=>true
noncomputable def Ff (sc:Scope) (ρ:fS):Ss->List Stmt->Bool
 | .nil,xs=>xs.isEmpty
 | .cons s ss,xs=>match xs with|x::xs=>mS sc ρ s x&&Ff sc ρ ss xs|[]=>false
end
theorem Lk(h:AC is=true):∃i j,is=[i,j]/\i≠j:=by
 unfold AC at h
 split at h
 ·exact⟨_,_,rfl,wK h⟩
 ·exact kK h
theorem SS.of{st:St}(q:x=y)(h:SS B n C sc ρ ro st y):SS B n C sc ρ ro st x:=q ▸ h
theorem CE{x:Stmt}(h:x=.Assign ts v p)(e:ts=us):x=.Assign us v p:=e ▸ h
theorem Lm(g1:CD sc ρ t is=true)(g3:(SD it||is.length==2)=true):MZ it t:=by
 have tt:is.length=2->∃oJ x1 pos,t=.Tuple oJ x1 pos:=λ e=>by
  rcases sG g1 with g1|g1
  ·have:=eq_of_beq (bm g1).1
   rw[e] at this;cases this
  ·refine aK (aw (bm g1).2) λ q u0=>?_
   exact⟨_,_,_,q.2⟩
 cases it with
 |zip a b=>exact tt (eq_of_beq g3)
 |enum a=>exact tt (eq_of_beq g3)
 |_=>trivial
theorem TS.cons(h:nB sc ρ ts [i,j]=true)(hl:ts.length=2):∃y py z pz,ts=[.Name y py,.Name z pz]/\d5 sc ρ y i=true/\d5 sc ρ z j=true:=by
 cases ts with
 |nil=>injection hl
 |cons t1 ts=>cases ts with
  |nil=>cases hl
  |cons t2 ts=>cases ts with
   |cons _ _=>cases hl
   |nil=>
    refine E7 (mQ h) λ y py i' js ak bA=>?_;obtain rfl:=ak;refine fy bA λ ei hy k3=>?_
    injection ei with Yi Yj
    subst Yi Yj
    obtain⟨z,pz,j',Y1,rfl,ej,hz,_⟩:=mQ k3
    injection ej with Yk Y2
    subst Yk
    exact⟨y,py,z,pz,rfl,hy,hz⟩
section
variable {B : Base} {n : Nat} {C : CS}
theorem IA(kn:KN B)(kf:KF B)(sd:∀Z,gL (B.with Z) n C){cond:Es}{Z:Nat->Prop}(inj:Al ρ)(hy:d5 sc ρ y i=true)
  (h:mE sc ρ false (.comp gy bp it cond) x=true)(hr:ro=true->fU (.comp gy bp it cond)=true):SS (B.with Z) n C sc ρ ro (.asg i (.comp gy bp it cond)) (.Assign [.Name y p] x Js):=by
 refine aK (aw h) λ q h=>?_
 refine gM (dm h) λ h h5 h6 h7=>?_
 refine gM (dm h) λ h1 h2 h3 h4=>?_
 have hk:yd it=true->(fU gy&&jM cond)=true:=λ q=>by rw[q] at h4;exact h4
 have Aj:ro=true->fU gy=true/\OH it=true/\jM cond=true:=λ q=>cu (hr q)
 have hb:(ro||yd it)=true->fU gy=true/\jM cond=true:=λ q=>(sG q).elim (λ q=>⟨(Aj q).1,(Aj q).2.2⟩) λ q=>bm (hk q)
 exact .of (congrArg (λ x=>Stmt.Assign [.Name y p] x Js) q.2) λ A H s env fr Q oa hs r R hw=>BY (rb:=ro||yd it) inj hy (vU h1) h2 (sI kn kf sd it sc ρ ro Z _ h5 λ q=>(Aj q).2.1) (λ Z'=>sE kn kf sd gy _ _ false _ Z' _ h6 λ q=>(hb q).1) (λ Z'=>CU kn kf sd cond _ _ true _ Z' _ h7 λ q=>(hb q).2)
  (GN h3) (λ q=>by rw[q];rfl) (λ q=>by rw[q,Bool.or_true]) _ _ _ _ _ _ oa hs r R hw
theorem Ln(inj:Al ρ)(h:nB sc ρ ts is=true)(h2:AC is=true)(b:pF v 2=true)(ih:SE B n C sc ρ ro e v):SS B n C sc ρ ro (.sH is e) (.Assign [.Tuple ts k p] v p'):=by
 refine fh (Lk h2) λ i j ak jN=>?_;obtain rfl:=ak
 refine E7 (TS.cons h (qL h)) λ y py z pz ak bA=>?_;obtain rfl:=ak;refine bV bA λ hy hz=>?_
 exact Iw inj hy hz jN b ih
mutual
theorem sS (kn:KN B) (kf:KF B) (sd:∀Z,gL (B.with Z) n C):∀(st:St) (sc:Scope) (ρ:fS) (ro:Bool) (Z:Nat->Prop) (x:Stmt),Al ρ->mS sc ρ st x=true->(ro=true->Wk st=true)->SS (B.with Z) n C sc ρ ro st x
 | .asg i e,sc,ρ,ro,Z,x,inj,h,hr=>by
  refine aK (aw h) λ q h=>?_
  refine fy (cu h) λ g1 g2 g3=>?_
  refine aK (aw g1) λ t g1=>?_
  refine aK (aw g1) λ y k2=>?_
  refine .of (CE q.2 (t.2.trans (congrArg (λ t=>[t]) y.2))) ?_
  cases hc:GO e with
  |true=>
   cases e with
   |comp gy bp it cond=>exact IA kn kf sd inj k2 g3 hr
   |_=>exact kK hc
  |false=>
   rw[hc] at g2
   exact Om inj k2 (sE kn kf sd e sc ρ false ro Z _ g3 hr) λ env u0 u0=>zc g2
 | .sH is e,sc,ρ,ro,Z,x,inj,h,hr=>by
  refine aK (aw h) λ q h=>?_
  refine fy (cu h) λ g1 g2 g3=>?_
  refine aK (aw g1) λ t g1=>?_
  refine aK (aw g1) λ y k2=>?_
  have ih:=sE kn kf sd e sc ρ false ro Z _ g3 hr
  exact .of (CE q.2 (t.2.trans (congrArg (λ t=>[t]) y.2))) ((sG g2).elim (λ g2=>Ln inj k2 (bm g2).1 (bm g2).2 ih) λ g2=>Ix inj k2 ((qL k2).trans (eq_of_beq g2)) ih)
 | .cI o a e,sc,ρ,ro,Z,x,inj,h,hr=>by
  refine aK (aw h) λ q h=>?_
  refine bV (bm h) λ g1 g3=>?_
  refine aK (aw g1) λ t g1=>?_
  refine aK (aw g1) λ y k2=>?_
  exact .of (CE q.2 (t.2.trans (congrArg (λ t=>[t]) (y.2.trans (congrArg (λ n=>Expr.Attribute y.1.1 n y.1.2.2) (eq_of_beq (bm k2).1)))))) (Ld (kf.w Z) (sE kn kf sd o sc ρ false ro Z _ (bm k2).2 λ q=>(bm (hr q)).1) (sE kn kf sd e sc ρ false ro Z _ g3 λ q=>(bm (hr q)).2))
 | .fu o i e,sc,ρ,ro,Z,x,inj,h,hr=>by
  cases ro;case true=>cases hr rfl
  refine aK (aw h) λ q h=>?_
  refine bV (bm h) λ g1 g3=>?_
  refine aK (aw g1) λ t g1=>?_
  refine aK (aw g1) λ y k2=>?_
  exact .of (CE q.2 (t.2.trans (congrArg (λ t=>[t]) y.2))) (Le (sE kn kf sd o sc ρ false false Z _ (bm k2).1 nofun) (sE kn kf sd i sc ρ false false Z _ (bm k2).2 nofun) (sE kn kf sd e sc ρ false false Z _ g3 nofun))
 | .ex e,sc,ρ,ro,Z,x,inj,h,hr=>by
  refine aK (aw h) λ q h=>?_
  exact .of q.2 (RH (bm h).1 (sE kn kf sd e sc ρ false ro Z _ (bm h).2 hr))
 | .ite c t f,sc,ρ,ro,Z,x,inj,h,hr=>by
  refine aK (aw h) λ q h=>?_
  refine fy (cu h) λ g1 g2 g3=>?_
  exact .of q.2 (RI (sE kn kf sd c sc ρ true ro Z _ g1 λ q=>(cu (hr q)).1) (M3 kn kf sd t sc ρ ro Z _ inj g2 λ q=>(cu (hr q)).2.1) (M3 kn kf sd f sc ρ ro Z _ inj g3 λ q=>(cu (hr q)).2.2))
 | .wh c b,sc,ρ,ro,Z,x,inj,h,hr=>by
  refine aK (aw h) λ q h=>?_
  refine fy (cu h) λ g0 g1 g2=>?_
  exact .of (q.2.trans (congrArg (λ l=>Stmt.While q.1.1 q.1.2.1 l q.1.2.2.2) (List.isEmpty_iff.mp g0))) (Iz (sE kn kf sd c sc ρ true ro Z _ g1 λ q=>(bm (hr q)).1) (M3 kn kf sd b sc ρ ro Z _ inj g2 λ q=>(bm (hr q)).2))
 | .cz is it b,sc,ρ,ro,Z,x,inj,h,hr=>by
  refine aK (aw h) λ q h=>?_
  refine gM (dm h) λ g g0 g5 g6=>?_
  refine gM (dm g) λ g1 g2 g3 g4=>?_
  have hk:yd it=true->uI b=true:=λ q=>by rw[q] at g4;exact g4
  have hb:(ro||yd it)=true->uI b=true:=λ q=>(sG q).elim (λ q=>(bm (hr q)).2) hk
  exact .of (q.2.trans (congrArg (λ l=>Stmt.For q.1.1 q.1.2.1 q.1.2.2.1 l q.1.2.2.2.2) (List.isEmpty_iff.mp g0))) (Ot (rb:=ro||yd it) inj (sI kn kf sd it sc ρ ro Z _ g5 λ q=>(bm (hr q)).1) (λ Z'=>M3 kn kf sd b sc ρ _ Z' _ inj g6 hb) g1 g2 (Lm g1 g3) (λ q=>by rw[q];rfl) (λ q=>by rw[q,Bool.or_true]))
 | .ret e,sc,ρ,ro,Z,x,inj,h,hr=>by
  refine aK (aw h) λ q h=>?_
  refine aK (aw h) λ v h=>?_
  exact .of (q.2.trans (congrArg (λ v=>Stmt.Return v q.1.2) v.2)) (On (sE kn kf sd e sc ρ false ro Z _ h hr))
 | .wall,sc,ρ,ro,Z,x,inj,h,hr=>λ u0 u0 u0 u0 u0 u0 oa hs r R hw=>hw.elim
theorem M3 (kn:KN B) (kf:KF B) (sd:∀Z,gL (B.with Z) n C):∀(ss:Ss) (sc:Scope) (ρ:fS) (ro:Bool) (Z:Nat->Prop) (xs:List Stmt),Al ρ->Ff sc ρ ss xs=true->(ro=true->uI ss=true)->SB (B.with Z) n C sc ρ ro ss xs
 | .nil,sc,ρ,ro,Z,xs,inj,h,hr=>by
  cases xs with
  |nil=>exact Oo
  |cons _ _=>exact kK h
 | .cons s ss,sc,ρ,ro,Z,xs,inj,h,hr=>by
  cases xs with
  |nil=>exact kK h
  |cons x xs=>
   refine bV (bm (a:=mS sc ρ s x) (b:=Ff sc ρ ss xs) h) λ h1 h2=>?_
   exact Lf (sS kn kf sd s sc ρ ro Z x inj h1 λ q=>(bm (hr q)).1) (M3 kn kf sd ss sc ρ ro Z xs inj h2 λ q=>(bm (hr q)).2)
end
end
end
structure CF (ar:Nat) (names:List Str) (ρ:fS) (fd:FuncData):Prop where
 gl:fd.globals=mainGlobals
 bl:fd.builtins=builtinsNs
 Wl:fd.closure=[]
 bind:∀fX:List Value,fX.length=ar->bindArgs fd ⟨fX,[]⟩=pure (names.zip fX)
 kind:fd.scope.kind=.function
 co:fd.scope.isCoroutine=false
 gen:fd.scope.isGenerator=false
 len:names.length=ar
 nd:names.Nodup
 par:∀i x,names[i]?=some x->ρ.lookup x=some i/\(fd.scope.names.lookup x=some .local\/fd.scope.names.lookup x=some .cell)
 inj:Al ρ
structure CG (P:Fn->Def) (B:Base) (f:Fn) (names:List Str) (ρ:fS) (fd:FuncData) (body:List Stmt):Prop where
 obj:∃o,B.h₀.get? (B.fa f)=some o/\o.data=.func fd
 code:B.h₀.CodeRec fd.code fd.qualname
 Yl:fd.body=.stmts body
 fr:CF (P f).arity names ρ fd
 TP:Ff fd.scope ρ (P f).body body=true
 ro:f=.cv->uI (P f).body=true
set_option tactic.hygienic true in
theorem qM : ∀ {names : List (Str × NameKind)} {n : Nat} {acc : List (Str × Addr)}, ((acc.lookup x).isSome = true \/ names.lookup x = some .cell) -> ((cellsFrom n names acc).lookup x).isSome = true := by
  intro xR
  induction xR with
  | nil =>
    intro n acc h
    exact h.elim id λ h => by cases h
  | cons pX r aU =>
    obtain ⟨y, k⟩ := pX
    intro n acc h
    unfold cellsFrom
    split
    · refine aU ?_
      rcases h with h | h
      · left
        rw [nv]
        split
        · rfl
        · exact h
      · rw [nv] at h
        cases q : (x == y) with
        | true => left; rw [nv, q]; rfl
        | false => rw [q] at h; exact .inr h
    · refine aU ?_
      rcases h with h | h
      · exact .inl h
      · rw [nv] at h
        cases q : (x == y) with
        | true =>
          rw [q] at h
          rename_i hk
          injection h with h
          subst h
          exact absurd rfl hk
        | false => rw [q] at h; exact .inr h
theorem wc{ko:Str->Option NameKind}:∀{bs:List (Str×Value)} {m:Str->Option Value},(∀b∈bs,b.1≠x)->bindL ko bs m x=m x
 |[],m,_=>rfl
 |(n,v)::r,m,h=>by
  unfold bindL
  rw[wc λ b hb=>h b (.tail _ hb)]
  split
  ·exact if_neg (Ne.symm (h _ (.head _)))
  ·rfl
theorem we{ko:Str->Option NameKind}:∀{bs:List (Str×Value)} {m:Str->Option Value},(∀b∈bs,b.1≠x)->bindC ko bs m x=m x
 |[],m,_=>rfl
 |(n,v)::r,m,h=>by
  unfold bindC
  rw[we λ b hb=>h b (.tail _ hb)]
  split
  ·rfl
  ·exact if_neg (Ne.symm (h _ (.head _)))
theorem zj{ko:Str->Option NameKind}(hk:ko x=some .local):∀{names:List Str} {fX:List Value} {m:Str->Option Value} {i:Nat},names.Nodup->names[i]?=some x->fX[i]?=some y->bindL ko (names.zip fX) m x=some y
 |[],_,_,_,_,h,_=>by cases h
 |n::names,[],_,_,_,_,h=>by cases h
 |n::names,v::fX,m,0,nd,h1,h2=>by
  injection h1 with h1;injection h2 with h2
  subst h1 h2
  rw[List.zip_cons_cons]
  unfold bindL
  rw[wc λ b hb e=>?_,if_pos hk]
  ·exact if_pos rfl
  ·exact(kY nd).1 (e ▸ (List.of_mem_zip hb).1)
 |n::names,v::fX,m,i+1,nd,h1,h2=>by
  rw[List.zip_cons_cons]
  unfold bindL
  exact zj hk (kY nd).2 h1 h2
theorem zm{ko:Str->Option NameKind}(hk:ko x=some .cell):∀{names:List Str} {fX:List Value} {m:Str->Option Value} {i:Nat},names.Nodup->names[i]?=some x->fX[i]?=some y->bindC ko (names.zip fX) m x=some y
 |[],_,_,_,_,h,_=>by cases h
 |n::names,[],_,_,_,_,h=>by cases h
 |n::names,v::fX,m,0,nd,h1,h2=>by
  injection h1 with h1;injection h2 with h2
  subst h1 h2
  rw[List.zip_cons_cons]
  unfold bindC
  rw[we λ b hb e=>?_,if_neg (by rw[hk];decide)]
  ·exact if_pos rfl
  ·exact(kY nd).1 (e ▸ (List.of_mem_zip hb).1)
 |n::names,v::fX,m,i+1,nd,h1,h2=>by
  rw[List.zip_cons_cons]
  unfold bindC
  exact zm hk (kY nd).2 h1 h2
section
variable {P : Fn -> Def} {B : Base} {n : Nat} {H H' nR : Mine.H} {s s' : Shared}
theorem sD(l:le nR H')(i:bK nR a):bK H' a:=by refine gN i λ c fs e=>?_;exact⟨c,fs,l _ _ e⟩
theorem Rel.down(R:Rel B H' h)(l:le nR H'):Rel B nR h:=
 ⟨R.base,R.zl,λ a o e=>R.obj a o (l a o e),λ a a' d i i'=>R.sep a a' d (sD l i) (sD l i'),λ a d i e=>by
  refine bV (R.mH a d (sD l i) e) λ e1 e2=>?_
  refine⟨?_,e2⟩
  cases q:nR d with
  |none=>rfl
  |some o=>rw[l d o q] at e1;cases e1⟩
theorem Step.down{Z F:Nat->Prop}{ro:Bool}(S:Step Z F ro H s H' s')(l:le nR H'):Step Z F ro H s nR s':=
 {S with rH:=λ a o e hl=>S.rH a o (l a o e) hl,mI:=λ a d i=>S.mI a d (sD l i)}
theorem IB{Q:V->Mine.H->Prop}(x:eO o Q h):∃oA,le oA h/\Q o.val oA:=by unfold eO at x;exact x
theorem GP{ar k:Nat}(D:CF ar names ρ fd){a:Nat}(hl:l.length=ar)(rl:cx B.Z s.heap l xs)(R:Rel B H s.heap)
  (x:InCallC s (callEnvC fd s.heap.objs.size a).locals (bindL (callEnvC fd s.heap.objs.size a).kindOf (names.zip xs) λ u0=>none) (callEnvC fd s.heap.objs.size a).cells (bindC (callEnvC fd s.heap.objs.size a).kindOf (names.zip xs) λ u0=>none) aW):
  eD B H aW.heap (callEnvC fd s.heap.objs.size a) ρ (l.map some++List.replicate k Option.none)/\∀b,FA (callEnvC fd s.heap.objs.size a) b->¬aR s.heap b:=by
 have kk:=x.toInCall.keep
 have vp:∀b,FA (callEnvC fd s.heap.objs.size a) b->¬aR s.heap b:=λ b f=>by
  rcases f with rfl|⟨y,e⟩
  ·exact bW (bE _)
  ·exact bW (Nat.le_of_lt (x.above y b (mem_of_lookup e)))
 have own:∀b,¬aR s.heap b->¬j5 H aW.heap b:=λ b nb q=>by
  rcases q with⟨O,e⟩|⟨a,ia,d⟩
  ·exact nb (R.lt e)
  ·refine DK (R.fF ia) λ c dx es n e1 e2 e3=>?_
   unfold aH at d
   rw[kk _ _ e1] at d
   injection d with d
   exact nb (d ▸ ⟨_,e2⟩)
 have Vr:∀{x:Str} {i:Nat} {v:V},ρ.lookup x=some i->(l.map some++List.replicate k Option.none)[i]?=some (some v)->names[i]?=some x/\∃y,xs[i]?=some y/\RV B.Z s.heap v y:=λ{x i v} e ef=>by
  have hi:l[i]?=some v:=by
   by_cases q:i<l.length
   ·rw[List.getElem?_append_left (by simpa using q),List.getElem?_map] at ef
    cases e2:l[i]? with
    |none=>rw[e2] at ef;exact dD ef
    |some w=>rw[e2] at ef;injection ef
   ·rw[wf (by simpa using q),List.getElem?_replicate] at ef
    split at ef
    ·injection ef with ef;exact dD ef
    ·exact dD ef
  refine aG (rl.get hi) λ y e1 e2=>?_
  have Ym:i<names.length:=by rw[D.len,←hl];exact(fQ hi).1
  have e3:names[i]?=some names[i]:=kH Ym
  have:=D.inj _ _ _ (D.par i _ e3).1 e
  exact⟨this ▸ e3,y,e1,e2⟩
 have g:=dX.keeps (Z:=B.Z) kk
 refine⟨⟨D.kind,D.gl,D.bl,⟨_,x.toInCall.ns,λ z i v e hk ef=>?_⟩,λ z i e hk=>?_,λ z z' c e e'=>name_of_addr x.apart (mem_of_lookup e) (mem_of_lookup e'),λ b f=>⟨?_,own b (vp b f),λ hP=>by refine aK hP λ o e=>?_;exact vp b f ⟨o,R.base _ _ e⟩⟩,λ z e=>Nat.lt_irrefl _ (x.above z _ (mem_of_lookup e)),λ z c e=>⟨_,x.cell z c e⟩⟩,vp⟩
 ·obtain⟨e1,y,e2,e3⟩:=Vr e ef
  exact⟨y,zj hk D.nd e1 e2,e3.grow g⟩
 ·refine aK (Option.isSome_iff_exists.mp (qM (n:=s.heap.objs.size+1) (acc:=[]) (.inr hk))) λ c hc=>?_
  refine⟨c,_,hc,x.cell z c hc,λ v ef=>?_⟩
  obtain⟨e1,y,e2,e3⟩:=Vr e ef
  exact⟨y,zm hk D.nd e1 e2,e3.grow g⟩
 ·rcases f with rfl|⟨y,e⟩
  ·refine im x.toInCall.ns λ o u0 u0 e u0=>?_;exact⟨o,e⟩
  ·refine aG (x.cell y b e) λ o e u0=>?_;exact⟨o,e⟩
theorem B0(kn:KN B)(kf:KF B)(defs:∀f,(∃names ρ fd body,CG P B f names ρ fd body)\/(P f).body=.cons .wall .nil)(ih:∀Z,gL (B.with Z) n (ah P n))(Z:Nat->Prop):gL (B.with Z) (n+1) (ah P (n+1)):=by
 intro A H s Q f l xs ro RR oc R rl hw rD aY
 refine bV (xh hw) λ cT hw=>?_
 rcases defs f with⟨names,ρ,fd,body,D⟩|RJ
 rotate_left
 ·rw[RJ] at hw;exact hw.elim
 refine aG D.obj λ o ho Pn=>?_
 have Yn:xs.length=(P f).arity:=rl.length.symm.trans cT
 refine codeAny_call_cells (by have:=oc.d;exact ai [_,_,_] (Pl X0 (Nm 1)) X1 1 (Pl (Pl (Pl X0 (Ml 4 (Pl X2 (Nm 1)))) (Nm 18)) (Nm 1)) X1 rfl this) (R.base _ _ ho) Pn (B.nolimit.keeps R.base) (D.code.keeps R.base) D.Yl (D.fr.bind xs Yn) D.fr.Wl (λ x hx=>?_) (λ aW x=>?_) D.fr.co D.fr.gen D.fr.kind
 ·refine aK (List.mem_iff_getElem?.mp (List.of_mem_zip hx).1) λ i hi=>?_
  rcases(D.fr.par i _ hi).2 with h|h
  ·exact .inl h
  ·exact .inr ⟨h,qM (.inr h)⟩
 ·obtain⟨r,vp⟩:=GP D.fr cT rl R x
  have oa:j6 n (A.deeper (callEnvC fd s.heap.objs.size (B.fa f))):=⟨oc.hh,by show A.units+3+_+_<_;have:=oc.u;exact ai [_,_,_] (Pl (Pl (Pl (Pl X0 (Nm 3)) (Ml 40 X1)) (Nm 100)) (Nm 1)) X2 1 (Pl (Pl (Pl X0 (Ml 40 (Pl X1 (Nm 1)))) (Nm 90)) (Nm 1)) X2 rfl this,by show A.depth+1+_+_<_;have:=oc.d;exact ai [_,_,_] (Pl (Pl (Pl (Pl X0 (Nm 1)) (Ml 4 X1)) (Nm 20)) (Nm 1)) X2 1 (Pl (Pl (Pl X0 (Ml 4 (Pl X1 (Nm 1)))) (Nm 18)) (Nm 1)) X2 rfl this⟩
  have hq:Rel (B.with Z) H aW.heap/\Step Z bH ro H s H aW:=by
   refine gN x.toInCall.same λ h1 tk e=>?_
   have kk:=x.toInCall.keep
   subst e
   refine bV (R.quiet (tk:=tk) kk) λ R1 S1=>?_
   exact⟨R1,S1.weaken λ u0=>rfl⟩
  refine bV hq λ R1 S1=>?_
  have Yo:Step Z (FA (callEnvC fd s.heap.objs.size (B.fa f))) ro H s H aW:=S1.within (λ u0 u0 f=>f.elim) λ a O e f=>(r.ow a f).2.1 (.inl ⟨O,e⟩)
  refine cW (M3 kn kf ih (P f).body fd.scope ρ ro Z body D.fr.inj D.TP (λ q=>D.ro (rD q)) _ _ _ _ _ _ oa rfl r R1 hw) (λ fl s' hP=>?_) λ u0 u0 f=>f.elim
  refine CH hP λ o fj H' hf R' r' S' q=>?_
  refine aG (IB q) λ nR TQ q=>?_
  have Wm:Step Z bH ro H s nR s':=((Yo.both R S').within (λ b lb f=>vp b f lb) λ u0 u0 u0 f=>f.elim).down TQ
  rcases hf with⟨rfl,rfl⟩|⟨v,y,rfl,rfl,rv⟩
  ·exact aY _ _ ⟨.none,nR,.none,R'.down TQ,Wm,q⟩
  ·exact aY _ _ ⟨v,nR,rv,R'.down TQ,Wm,q⟩
theorem RM(kn:KN B)(kf:KF B)(defs:∀f,(∃names ρ fd body,CG P B f names ρ fd body)\/(P f).body=.cons .wall .nil):∀(n:Nat) (Z:Nat->Prop),gL (B.with Z) n (ah P n):=by
 intro xR
 induction xR with
 |zero=>
  intro Z
  exact λ oc R rl hw rD aY=>(xi hw).elim
 |succ n aU=>
  intro Z
  exact B0 kn kf defs (aU) Z
end
section
variable {B : Base} {A : Around} {s : Shared}
theorem IC{Z:Nat->Prop}:∀{xs:List Value},(∀v∈xs,∃n t,v=.int n t)->∃L:List Int,L.length=xs.length/\cx Z h (L.map V.int) xs:=by
 intro xR
 induction xR with
 |nil=>
  intro _
  exact⟨[],rfl,.nil⟩
 |cons x xs aU=>
  intro hv
  refine gN (hv _ (.head _)) λ n t ak=>?_;obtain rfl:=ak
  refine aG (aU λ v m=>hv v (.tail _ m)) λ L e r=>?_
  exact⟨n::L,by simp[e],.cons .int r⟩
theorem ID{items:Array Value}{is:List Nat}{v:Value}(h:v∈is.filterMap (items[·]?)):v∈items.toList:=by
 refine aG (List.mem_filterMap.mp h) λ i u0 e=>?_
 exact mB (i:=i) (by rw[Array.getElem?_toList];exact e)
theorem Lo:(slicePick items none (some 40) none).size<=40:=by
 unfold slicePick
 rw[List.size_toArray]
 refine cV (List.length_filterMap_le _ _) ?_
 show(sliceRange 0 (max 0 (min 40 (items.size:Int))) 1).length<=40
 unfold sliceRange
 simp
 exact TV _
theorem Rel.none(hZ:∀a,¬B.Z a)(hs:s.heap=B.h₀):Rel B (λ u0=>Option.none) s.heap where
 base:=λ b o e=>hs ▸ e
 zl:=λ a z=>(hZ a z).elim
 obj:=λ a o e=>by cases e
 sep:=λ a a' d i=>by refine gN i λ c fs e=>?_;exact dD e
 mH:=λ a d i=>by refine gN i λ c fs e=>?_;exact dD e
theorem RN(kn:KN B){H:Mine.H}{E Q:Value->Shared->Prop}{k1 k2 l:Nat}{vs:List Value}(hs:env.scope=sc)(nl:cg sc "list"=true)(v0:d5 sc ρ "script" 0=true)(hf:fr[0]?=some (some (.ref l)))
  (r:eD B H s.heap env ρ fr)(R:Rel B H s.heap)(hl:s.heap.IsList l vs.toArray)(hi:∀v∈vs,∃n t,v=.int n t)(hn:vs.length<=63)
  (h:∀h5 a3 dk tk t (ys:Array Value) (h4:Heap),ys.size<=40->(∀v∈ys.toList,∃n t,v=.int n t)->(∀b o,s.heap.get? b=some o->h4.get? b=some o)->(∀b o,h4.get? b=some o->h5.get? b=some o)->¬aR s.heap a3/\3<a3->h4.get? a3=some (dF ys 0)->h4.objs.size=dk->
   h5.get? dk=some (dF #[.ref a3,.int 0 t] 0)->Q (.ref dk) {s with heap:=h5,toks:=tk}):
  wpAny (model B.prog B.w) A (eval (.List [.Subscript (.Call (.Name "list" p2) [.Name "script" p3] [] p4) (.Slice none (some (.Constant (.int 40) k1 p5)) none p6) p7,.Constant (.int 0) k2 p8] p9) env) Q E s:=by
 have hz:sizeLine=2^24:=rfl
 obtain⟨h1,g,d,tk,os⟩:=s
 dsimp only at*
 have Wn:=xa hs v0
 refine List_ (spliced_more (Subscript_ (th (Gg hs nl r R (kn.gb "list" (by decide+kernel)) (by decide+kernel) (v:=.type "list") rfl (ti rfl (spliced_more (r.load Wn.1 Wn.2 (by decide+kernel) (v:=.ref l) hf λ y ry=>?_) rfl))))) rfl)
 obtain rfl:=eI ry
 obtain⟨ol,el,cl,Y3,dl⟩:=hl
 refine spliced_none (call_list_seq l (.inl rfl) el cl dl (λ h2 c2 k2 e2=>?_) (by rw[List.size_toArray];exact aS [_,_] X0 X1 1 X0 (Nm 63) 1 (Nm (2^24)) X1 rfl hn (bw hz.symm)))
 dsimp only at k2 e2⊢
 generalize h1.objs.size=a2 at e2
 refine wpAny_Slice (a8 (wpAny_Constant_int (k:=k1) (pos:=p5) (a8 ?_)))
 have Lz:h2.IsList a2 vs.toArray:=⟨_,e2,rfl,c2,rfl⟩
 refine tail_any (T:="list") (ops:=[.ref h2.objs.size,.ref a2]) (Lz.push _).typeIs PySem.slot_list_getitem.lookup ?_ rfl
 refine wpAny_getItem_list_slice (lo:=none) (hi:=some 40) (st:=none) (Lz.push _) (Heap.IsSliceOf.new ..) .none (.int _ _) .none (by decide) ?_ (by rw[List.size_toArray];exact aS [_,_] X0 X1 1 X0 (Nm 63) 1 (Nm (2^24)) X1 rfl hn (bw hz.symm))
 dsimp only
 have sp:(slicePick vs.toArray none (some 40) none).size<=40:=Lo
 have si:∀v∈(slicePick vs.toArray none (some 40) none).toList,∃n t,v=.int n t:=λ v hv=>hi v (by
  unfold slicePick at hv
  have:=ID hv
  simpa using this)
 generalize slicePick vs.toArray none (some 40) none=ys at sp si⊢
 generalize Yp:h2.push {cls:=.type "slice",data:=.fields #[.none,.int 40 tk,.none]}=h3
 have k3:∀b o,h1.get? b=some o->h3.get? b=some o:=λ b o e=>Yp ▸ pk b o (k2 b o e)
 refine spliced_more (wpAny_Constant_int ?_) rfl
 refine spliced_none (wpAny_newList ?_ (by show 2<=sizeLine;decide))
 dsimp only
 have e3:(h3.push {cls:=.type "list",data:=.seq ys}).get? h3.objs.size=some (dF ys 0):=fW _ rfl
 exact h _ h3.objs.size _ _ (tk+1) ys (h3.push {cls:=.type "list",data:=.seq ys}) sp si (λ b o e=>pk b o (k3 b o e)) (λ b o e=>pk b o e) (R.new k3 (bE _)) e3 rfl (fW _ rfl)
theorem Lp(kn:KN B)(kf:KF B)(defs:∀f,(∃names ρ fd body,CG prog B f names ρ fd body)\/(prog f).body=.cons .wall .nil)(hZ:∀a,¬B.Z a)(hs:s.heap=B.h₀){a:Nat}{rJ:List Stmt}{k1 k2:Nat}
  (ho:s.heap.get? a=some o)(Pn:o.data=.func fd)(OG:s.heap.CodeRec fd.code fd.qualname)
  (hb:fd.body=.stmts (.Assign [.Name "deck" p1] (.List [.Subscript (.Call (.Name "list" p2) [.Name "script" p3] [] p4) (.Slice none (some (.Constant (.int 40) k1 p5)) none p6) p7,.Constant (.int 0) k2 p8] p9) Y4::rJ))
  (D:CF 1 ["script"] ρ fd)(v0:d5 fd.scope ρ "script" 0=true)(v1:d5 fd.scope ρ "deck" 1=true)(nl:cg fd.scope "list"=true)(TP:Ff fd.scope ρ Ca rJ=true)
  {l:Nat}{vs:List Value}(hl:s.heap.IsList l vs.toArray)(hi:∀v∈vs,∃n t,v=.int n t)(hn:vs.length<=63)(hh:A.handled=none)(hu:A.units<=100)(hd:A.depth+100<recursionLimit):
  codeAny (model B.prog B.w) A (.call (.ref a) ⟨[.ref l],[]⟩) (λ r s'=>r=.ok (.ret (.bool true))/\(∃h' tk,s'={s with heap:=h',toks:=tk})/\∀b o,s.heap.get? b=some o->s'.heap.get? b=some o) s:=by
 have hz:sizeLine=2^24:=rfl
 have hL:aZ=1000000:=rfl
 have Yq:cLine=9900:=rfl
 have R0:Rel B (λ u0=>Option.none) s.heap:=.none hZ hs
 have ll:aR s.heap l:=by refine aG hl λ o e u0=>?_;exact⟨o,e⟩
 refine codeAny_call_cells (by exact ai [_,_] (Pl X0 (Nm 1)) X1 1 (Pl (Pl X0 (Nm 100)) (Nm 1)) X1 rfl hd) ho Pn (hs ▸ B.nolimit) OG hb (D.bind [.ref l] rfl) D.Wl (λ x hx=>?_) (λ aW x=>?_) D.co D.gen D.kind
 ·refine aK (List.mem_iff_getElem?.mp (List.of_mem_zip hx).1) λ i hi=>?_
  rcases(D.par i _ hi).2 with h|h
  ·exact .inl h
  ·exact .inr ⟨h,qM (.inr h)⟩
 ·refine bV (GP (k:=9) D (l:=[.ref l]) rfl (.cons (.ref ll (hZ l)) .nil) R0 x) λ r vp=>?_
  have kk:=x.toInCall.keep
  have oa:j6 7 (A.deeper (callEnvC fd s.heap.objs.size a)):=⟨hh,by show A.units+3+_+_<_;exact aS [_,_] (Pl (Pl (Pl (Pl X0 (Nm 3)) (Ml 40 (Nm 7))) (Nm 100)) (Nm 1)) X1 1 X0 (Nm 100) 1 (Nm 9900) X1 rfl hu (bw Yq.symm),by show A.depth+1+_+_<_;exact ai [_,_] (Pl (Pl (Pl (Pl X0 (Nm 1)) (Ml 4 (Nm 7))) (Nm 20)) (Nm 1)) X1 1 (Pl (Pl X0 (Nm 100)) (Nm 1)) X1 rfl hd⟩
  obtain⟨R1,S1⟩:Rel B (λ u0=>Option.none) aW.heap/\Step B.Z bH false (λ u0=>Option.none) s (λ u0=>Option.none) aW:=by
   refine gN x.toInCall.same λ h1 tk e=>?_
   subst e
   refine bV (R0.quiet (tk:=tk) kk) λ R1 S1=>?_
   exact⟨R1,S1.weaken λ u0=>rfl⟩
  generalize Yr:(λ u0=>Option.none:Mine.H)=H0 at R0 R1 S1 r
  have rV:aW.heap.IsList l vs.toArray:=by refine aG hl λ o e q=>?_;exact⟨o,kk _ _ e,q⟩
  refine wpAny_execs_cons (wpAny_Assign_Name (RN kn rfl nl v0 rfl r R1 rV hi hn λ h5 a3 dk tk t ys h4 sp si k4 Wo na e3 Wq e5=>?_) rfl)
  have k5:∀b o,aW.heap.get? b=some o->h5.get? b=some o:=λ b o e=>Wo b o (k4 b o e)
  have TR:=Wo _ _ e3
  have nd:=R1.new k4 (bw Wq)
  have jN:dk≠a3:=λ e=>absurd (iI e3) (by rw[←e,←Wq];exact Nat.lt_irrefl _)
  refine aG (IC (Z:=B.Z) (h:=h5) si) λ L SN rl=>?_
  have SN:L.length=ys.size:=SN
  obtain⟨Y5,R2,S2⟩:=R1.alloc (tk:=tk) (O:=.list (L.map V.int)) k5 na (.list TR (by rw[dR];exact fH [_,_,_] X0 X1 1 (Nm 1000000) X1 1 X2 (Nm 40) 1 X0 X2 rfl (bw hL.symm) sp (bw SN)) rl) (λ d e=>by unfold aH at e;rw[TR] at e;exact dD e)
  have od:¬j5 (aC H0 a3 (.list (L.map V.int))) h5 dk:=λ q=>(w9 q).elim jN λ q=>by
   rcases q with⟨o,e⟩|⟨a,⟨c,fs,e⟩,_⟩<;>(rw[←Yr] at e;exact dD e)
  refine bV (R2.adopt (O:=.list [.ref a3,.int 0]) od ⟨λ hP=>by refine aK hP λ o e=>?_;exact nd.1 ⟨o,R1.base _ _ e⟩,nd.2⟩ (.list e5 (by show 2<=aZ;decide) (.cons (.ref ⟨_,TR⟩ (hZ a3)) (.cons .int .nil))) (λ u0 u0=>nofun)) λ IS R3=>?_
  have S3:=(S2.adopt (O:=.list [.ref a3,.int 0]) nd.1 (λ u0 u0=>nofun)).weaken (r':=false) (λ q=>by cases q)
  have r3:eD B (aC (aC H0 a3 (.list (L.map V.int))) dk (.list [.ref a3,.int 0])) h5 (callEnvC fd s.heap.objs.size a) ρ _:=r.go (s':={aW with heap:=h5,toks:=tk}) S3
  refine lM (ro:=false) D.inj rfl v1 r3 R3 (.ref ⟨_,e5⟩ (hZ dk)) λ s6 R6 S6 r6=>?_
  have W:=Rd (n:=0) (dk:=dk) (s:=a3) (L:=L) (s0:=some (.ref l)) (K:=λ o fr h=>o=.ret (.bool true)) (h:=aC (aC H0 a3 (.list (L.map V.int))) dk (.list [.ref a3,.int 0])) (if_pos rfl) ((if_neg (Ne.symm jN)).trans (if_pos rfl)) (by exact aS [_,_] X0 (Nm 100) 1 X1 (Nm 40) 1 X0 X1 rfl sp (bw SN)) (λ u0 u0=>rfl)
  refine cW ((M3 kn kf (RM kn kf defs 7) Ca fd.scope ρ false B.Z rJ D.inj TP (λ q=>by cases q)) _ _ _ _ _ _ oa rfl r6 R6 W) (λ fl s' hP=>?_) λ u0 u0 f=>f.elim
  refine CH hP λ o fj H' ho R' r' S' q=>?_
  have keep:∀b o,s.heap.get? b=some o->s'.heap.get? b=some o:=λ b o e=>by
   have l0:aR B.h₀ b:=⟨o,hs ▸ e⟩
   have nf:¬FA (callEnvC fd s.heap.objs.size a) b:=λ f=>vp b f ⟨o,e⟩
   exact S'.keep b o (S6.keep b o (k5 b o (kk b o e)) (λ q=>(R3.GF q).2 l0) nf) (λ q=>(R6.GF q).2 l0) nf
  have same:∃h' tk,s'={s with heap:=h',toks:=tk}:=by
   refine gN x.toInCall.same λ h1 t1 e1=>?_
   refine gN S6.same λ h2 t2 e2=>?_
   refine gN S'.same λ h3 t3 e3=>?_
   subst e1 e2 e3
   exact⟨h3,t3,rfl⟩
  rcases ho with⟨rfl,rfl⟩|⟨v,y,rfl,rfl,rv⟩
  ·injection q
  ·injection q with q
   subst q
   obtain rfl:=lH rv
   exact⟨rfl,same,keep⟩
end
section
noncomputable def Vf:List (Nat):=[49,63,68,73,87,108,115,129,136,150,155,162,169,176,183,197,202,209,214,219,233,240,247,254,261,268,275,282,296,303,310,317,324,331,338,345,352,359,366,371,376,390,397,418,425,432,437,451,465,472,479,486,493,498,505,510,515,522,527,532,537,542]
noncomputable def Am(x:Fn):Nat:=CJ 0 Vf x.val
noncomputable def DS:Ab->Nat
 | .dB=>52
 | .ct=>90
 | .dy=>118
 | .fC=>186
 | .ge=>285
 | .Apart=>407
 | .Places=>454
noncomputable abbrev sL(l:List Str):List Str:=l
noncomputable def Lq:List (List Str):=[sL ["self","number","title","needed","has_rest","is_continuation","registers","free","instructions"],sL ["instruction"],sL ["instruction","found","sort","operand","own","row"],sL ["instruction","found","sort","operand"],sL ["self","number","params"],sL ["self","number","title","is_continuation"],sL ["self"],sL ["end"],sL ["end"],sL ["self","targets","sources","target","source"],sL ["self","register"],sL ["self","target"],sL ["self","target"],sL ["self"],sL ["self","register","other","target"],sL ["targets","sources","scratch","row","found","target"],sL ["steps","scratch"],sL ["row","of"],sL ["registers","of"],sL ["op","of","word"],sL ["self","unit","places"],sL ["self"],sL ["self","instruction"],sL ["self","instruction","block"],sL ["self","targets","sources","of","steps","step"],sL ["self","block","later","of","op","end"],sL ["self","found","at","block"],sL ["self"],sL ["numbers","met","number"],sL ["unit","met","found","waiting","number","leads","other"],sL ["unit","places","emitter","order","at","number","later"],sL ["registers","found","register"],sL ["mask","found","at"],sL ["mask","register"],sL ["mask","other"],sL ["unit","block","begins","found","number"],sL ["op","after"],sL ["unit","block","begins","after","found","op"],sL ["unit","block","begins","after","op"],sL ["unit","begins","waiting","ahead","number","found"],sL ["unit","found","block","number"],sL ["self","count"],sL ["self","register","mask","others","other"],sL ["apart","op","after","written","around","register"],sL ["unit","begins","apart","entry","register","block","params","op","after"],sL ["unit","found","register","block","op"],sL ["unit","found","block","source","target"],sL ["self","of","count"],sL ["apart","of","register","found","other"],sL ["mask","at"],sL ["apart","of","wishes","register","taken","other"],sL ["unit","apart","wishes","of","place","register","count"],sL ["deck","many"],sL ["deck","unit","known","way","sources","one","other"],sL ["deck","unit","known","params","least","block","turn"],sL ["deck","known","many"],sL ["deck","unit","known","shape","first","many","turn","own","way","last","turned","again","back"],sL ["names","term"],sL ["names","held","of","op","told","row"],sL ["names","unit","of","ways","held","told","at","left","place","register","block","op","end","values","target","value"],sL ["names","procedure_here","entered_here","ways","held","told","at","left","place","of","turn","op"],sL ["script","deck","unit","procedure_here","told","same_here","ways","names","due"]]
noncomputable def lN(x:Fn):List Str:=CJ [] Lq x.val
noncomputable def wL:List Ab:=[.dB,.ct,.dy,.fC,.ge,.Apart,.Places]
theorem xc(c:Ab):c∈wL:=by cases c<;>exact gS rfl
theorem Ou:∀a:At,a∈Cp:=by decide+kernel
noncomputable def GQ(d:Data):Option FuncData:=match d with| .func fd=>some fd|_=>none
theorem IE(h:GQ d=some f):d=.func f:=by
 cases d with
 |func g=>cases h;rfl
 |_=>cases h
noncomputable def Ju(K:Frag)(a:Nat):Option FuncData:=(K.lookup a).bind λ o=>GQ o.data
noncomputable def mK(K:Frag)(a:Nat):FuncData:=(Ju K a).getD default
noncomputable def xe(b:FuncBody):Option (List Stmt):=match b with| .stmts b=>some b|_=>none
theorem E1(h:xe b=some l):b=.stmts l:=by
 cases b with
 |stmts g=>cases h;rfl
 |_=>cases h
noncomputable def n5(fd:FuncData):List Stmt:=(xe fd.body).getD []
noncomputable def Dq(fd:FuncData):Bool:=(xe fd.body).isSome
theorem GR{α:Type}{o:Option α}{d:α}(h:o.isSome=true):o=some (o.getD d):=by
 cases o with
 |none=>cases h
 |some a=>rfl
theorem zn{K:Frag}(h:(Ju K a).isSome=true):∃o,K.lookup a=some o/\o.data=.func (mK K a):=by
 refine aG (Option.bind_eq_some_iff.mp (GR (d:=default) h)) λ o e f=>?_
 exact⟨o,e,IE f⟩
theorem pQ(h:Dq fd=true):fd.body=.stmts (n5 fd):=E1 (GR h)
noncomputable def wM:List Str->Bool
 |[]=>true
 |x::xs=>!xs.contains x&&wM xs
theorem E2:∀{l:List Str},wM l=true->l.Nodup:=by
 intro xR
 induction xR with
 |nil=>
  intro _
  exact List.nodup_nil
 |cons x xs aU=>
  intro h
  refine bV (bm (a:=!xs.contains x) (b:=wM xs) h) λ h1 h2=>?_
  exact List.nodup_cons.mpr ⟨by simpa using h1,aU h2⟩
theorem Dr:∀{l:List Str} {k:Nat},(l.zipIdx k).lookup x=some i->k<=i/\l[i-k]?=some x:=by
 intro xR
 induction xR with
 |nil=>
  intro k h
  cases h
 |cons y l aU=>
  intro k h
  rw[List.zipIdx_cons,nv] at h
  cases q:(x==y) with
  |true=>
   rw[q] at h;injection h with h
   subst h
   rw[Nat.sub_self,eq_of_beq q]
   exact⟨bE _,rfl⟩
  |false=>
   rw[q] at h
   refine bV (aU h) λ a b=>?_
   refine⟨by exact ai [_,_] X0 X1 1 (Pl X0 (Nm 1)) X1 rfl a,?_⟩
   rw[show i-k=(i-(k+1))+1 by exact dP (aS [_,_,_,_] X0 (Pl X1 (Nm 1)) 1 (Pl X0 X2) X3 1 X3 (Pl X1 (Pl X2 (Nm 1))) rfl (AA (ai [_,_] X0 X1 1 (Pl X0 (Nm 1)) X1 rfl a)) (Az _ _)) (aS [_,_,_,_] (Pl X0 (Nm 1)) X1 1 (Pl X0 (Pl X2 (Nm 1))) X3 1 X3 (Pl X1 X2) rfl (AA (ai [_,_] (Pl X0 (Nm 1)) X1 1 (Pl X0 (Nm 1)) X1 rfl a)) (Az _ _))]
   exact b
theorem GS:∀{l:List Str} {i k:Nat},l.Nodup->l[i]?=some x->(l.zipIdx k).lookup x=some (i+k)
 |[],i,k,_,h=>by cases h
 |y::l,0,k,nd,h=>by
  injection h with h
  subst h
  rw[List.zipIdx_cons,nv,beq_self_eq_true,Nat.zero_add]
 |y::l,i+1,k,nd,h=>by
  rw[List.zipIdx_cons,nv]
  have h:l[i]?=some x:=h
  have ne:(x==y)=false:=by
   rw[beq_eq_false_iff_ne]
   rintro rfl
   exact(kY nd).1 (mB h)
  rw[ne]
  show(l.zipIdx (k+1)).lookup x=_
  rw[GS (kY nd).2 h,show i+(k+1)=i+1+k by exact dP (aL [_,_] (Pl X0 (Pl X1 (Nm 1))) (Pl (Pl X0 (Nm 1)) X1) rfl) (aL [_,_] (Pl (Pl X0 (Nm 1)) X1) (Pl X0 (Pl X1 (Nm 1))) rfl)]
theorem Lr{l:List Str}:Al (l.zipIdx 0):=λ x y i h1 h2=>by
 have a:=(Dr h1).2
 have b:=(Dr h2).2
 rw[a] at b;injection b
noncomputable def dG(K:Frag)(names:List Str)(ar:Nat)(fd:FuncData):Bool:=
 (Dq fd&&codeIn K fd.code fd.qualname&&fd.globals==mainGlobals&&fd.builtins==builtinsNs)&&(fd.closure.isEmpty&&fd.scope.kind== .function&&!fd.scope.isCoroutine&&!fd.scope.isGenerator)&&
 (decide (ar<=names.length)&&wM names&&(names.take ar).all λ x=>fd.scope.names.lookup x==some .local||fd.scope.names.lookup x==some .cell)
theorem GV{K:Frag}(h:dG K names ar fd=true)(hb:∀fX:List Value,fX.length=ar->bindArgs fd ⟨fX,[]⟩=pure ((names.take ar).zip fX)):CF ar (names.take ar) (names.zipIdx 0) fd:=by
 refine fy (cu h) λ h1 h2 h3=>?_
 refine gM (dm h1) λ a1 a2 a3 a4=>?_
 refine gM (dm h2) λ b1 b2 b3 b4=>?_
 refine fy (cu h3) λ c1 c2 c3=>?_
 have nd:=E2 c2
 refine⟨eq_of_beq a3,eq_of_beq a4,List.isEmpty_iff.mp b1,hb,eq_of_beq b2,by simpa using b3,by simpa using b4,by rw[List.length_take];exact Nat.min_eq_left (gS c1),nd.sublist (List.take_sublist _ _),λ i x e=>⟨?_,?_⟩,Lr⟩
 ·exact GS (k:=0) nd (by
   rw[List.getElem?_take] at e
   split at e
   ·exact e
   ·cases e)
 ·have:=rF c3 x (mB e)
  exact(sG this).imp eq_of_beq eq_of_beq
theorem RP{p:List Value->Prop}(h:p [])(l:List Value)(e:l.length=0):p l:=List.eq_nil_of_length_eq_zero e ▸ h
theorem oW{p:List Value->Prop}(h:∀a,∀l:List Value,l.length=n->p (a::l))(l:List Value)(e:l.length=n+1):p l:=by
 cases l with
 |nil=>cases e
 |cons a l=>exact h a l (Nat.succ.inj e)
theorem MB{p:List Value->Prop}(h:∀a,p [a]):∀l:List Value,l.length=1->p l:=oW λ a=>RP (h a)
theorem MC{p:List Value->Prop}(h:∀a b,p [a,b]):∀l:List Value,l.length=2->p l:=oW λ a=>MB (h a)
theorem MD{p:List Value->Prop}(h:∀a b c,p [a,b,c]):∀l:List Value,l.length=3->p l:=oW λ a=>MC (h a)
theorem ME{p:List Value->Prop}(h:∀a b c d,p [a,b,c,d]):∀l:List Value,l.length=4->p l:=oW λ a=>MD (h a)
theorem MF{p:List Value->Prop}(h:∀a b c d e,p [a,b,c,d,e]):∀l:List Value,l.length=5->p l:=oW λ a=>ME (h a)
theorem RQ{p:List Value->Prop}(h:∀a b c d e f g i j,p [a,b,c,d,e,f,g,i,j]):∀l:List Value,l.length=9->p l:=oW λ a=>oW λ b=>oW λ c=>oW λ d=>MF (h a b c d)
noncomputable def jr:List Fn:=[.iA,.gp,.fJ,.dg,.je,.j9,.jf,.qv,.iv,.kg,.cv,.eu,.take,.dK,.cS,.n6,.jg,.n7,.cM,.qw,.kh,.here,.emit,.fB,.moves,.eh,.finished,.cX,.lY,.AH,.ki,.gg,.sa,.B1,.without,.iV,.j7,.lZ,.jh,.qx,.kj,.n8,.put,.AI,.tq,.l4,.qy,.rL,.km,.l5,.kq,.qz,.cG,.AJ,.dS,.gA,.tr,.gB,.wA,.tu,.wO,.MI]
noncomputable def Ql{α:Type}(p:α->Prop)(l:List α):Prop:=List.rec True (λ x u0 r=>p x/\r) l
theorem Ls{α:Type}{p:α->Prop}{l:List α}(h:Ql p l):∀x∈l,p x:=by
 induction l with
 |nil=>exact λ x m=>absurd m List.not_mem_nil
 |cons y l ih=>exact λ x m=>(ci m).elim (λ e=>e ▸ h.1) (ih h.2 x)
theorem wN:∀f:Fn,f∈jr:=by decide+kernel
theorem tJ{x y:Option (Option Value)}(h:(x==y)=true):x=y:=eq_of_beq h
noncomputable def Ys(K:Frag):Bool:=wL.all λ c=>plainGet K (DS c) "x"&&hasDictIn K (DS c)&&(findIn K (.ref (DS c)) "__setattr__"==some (some (.builtin "object.__setattr__")))&&plainOver K (DS c)&&makesIn K (DS c)&&(findIn K (.ref (DS c)) "__init__"==some (some (.ref (Am (B6 c)))))&&keepIn K (.ref (DS c))
noncomputable def Yt(K:Frag):Bool:=wL.all λ c=>Cp.all λ a=>findIn K (.ref (DS c)) (gz a)==some ((eW c a).map λ f=> .ref (Am f))
noncomputable def Yu(K:Frag):Bool:=jr.all λ f=>isFn K (.ref (Am f))&&keepIn K (.ref (Am f))
noncomputable def vz(x:Option (Option Value))(a:Nat):Bool:=match x with|some (some (.ref b))=>b==a|_=>false
noncomputable def A5(x:Option (Option Value))(y:Str):Bool:=match x with|some (some (.str z _))=>z==y|_=>false
noncomputable def Gj(x:Option (Option Value)):Bool:=match x with|some none=>true|_=>false
theorem pH(h:vz x a=true):x=some (some (.ref a)):=by
 unfold vz at h
 cases x with
 |none=>cases h
 |some x=>cases x with
  |none=>cases h
  |some v=>cases v with
   |ref b=>rw[show b=a from eq_of_beq h]
   |_=>cases h
theorem E3(h:A5 x y=true):∃t,x=some (some (.str y t)):=by
 unfold A5 at h
 cases x with
 |none=>cases h
 |some x=>cases x with
  |none=>cases h
  |some v=>cases v with
   |str z t=>exact⟨t,by rw[show z=y from eq_of_beq h]⟩
   |_=>cases h
theorem IF(h:Gj x=true):x=some none:=by
 unfold Gj at h
 cases x with
 |none=>cases h
 |some x=>cases x with
  |none=>rfl
  |some v=>cases h
noncomputable def Yv(K:Frag):Bool:=Co.all λ s=>(CA s).all λ y=>A5 (nsIn K mainGlobals y) (jn s)
noncomputable def Yw(K:Frag):Bool:=jr.all λ f=>(SA f).all λ y=>vz (nsIn K mainGlobals y) (Am f)
noncomputable def Yx(K:Frag):Bool:=wL.all λ c=>vz (nsIn K mainGlobals (Ph c)) (DS c)
noncomputable def Yy(K:Frag):Bool:=(["len","list","tuple","any","max","int","dict","range","zip","enumerate"]:List Str).all λ y=>Gj (nsIn K mainGlobals y)
noncomputable def DJ(K:Frag):Array DictEntry:=match K.lookup 22 with|some ⟨_,_,.dict es _,_⟩=>es|_=>#[]
noncomputable def Qm(K:Frag):Nat:=match K.lookup 22 with|some ⟨_,_,.dict _ ep,_⟩=>ep|_=>0
noncomputable def NE:List Sy:=[.const,.move,.global,.mR,.define,.free,.closure,.fix,.prim,.d7,.dJ,.call,.give]
noncomputable def tm:List V->List Value->Bool
 |[],xs=>xs.isEmpty
 |v::l,xs=>match xs with
  |x::xs=>(match v with| .str s=>F9 (jn s) x|_=>false)&&tm l xs
  |[]=>false
theorem E4:∀{l:List V} {xs:List Value},tm l xs=true->cx bH h l xs:=by
 intro xR
 induction xR with
 |nil=>
  intro _ e
  exact List.isEmpty_iff.mp e
 |cons v l aU=>
  intro xs e
  cases xs with
  |nil=>cases e
  |cons x xs=>
   refine bV (bm (b:=tm l xs) e) λ e1 e2=>?_
   refine .cons ?_ (aU e2)
   cases v with
   |str s=>exact yV e1
   |_=>cases e1
noncomputable def Qn(c:Value)(s:String):Bool:=match c with| .type t=>t==s|_=>false
noncomputable def MG(d:Data)(p:List Value->Bool):Bool:=match d with| .seq xs _=>p xs.toList|_=>false
noncomputable def Gk(l:List V)(o:Obj):Bool:=Qn o.cls "tuple"&&o.dict.isNone&&o.slots.isEmpty&&(decide (l.length<=aZ)&&MG o.data (tm l))
theorem Ov(h:Qn c t=true):c=.type t:=by
 cases c with
 |type u=>exact congrArg Value.type (eq_of_beq h)
 |_=>cases h
theorem Lu{p:List Value->Bool}(h:MG d p=true):∃xs n,d=.seq xs n/\p xs.toList=true:=by
 cases d with
 |seq xs n=>exact⟨xs,n,rfl,h⟩
 |_=>cases h
theorem E5(h:Gk l o=true):∃xs n,o=uH xs n/\l.length<=aZ/\tm l xs.toList=true:=by
 refine gM (dm h) λ h1 h2 h3 h4=>?_
 refine fh (Lu (bm h4).2) λ xs n e k=>?_
 refine⟨xs,n,?_,uG (bm h4).1,k⟩
 clear h
 obtain⟨c,d,dt,sl⟩:=o
 rw[show c=_ from Ov h1,show d=none from Option.isNone_iff_eq_none.mp h2,show sl=#[] from Array.isEmpty_iff.mp h3,show dt=_ from e]
noncomputable def Gm(x:Option Value):Option Nat:=match x with|some v=>(match v with| .ref a=>some a|_=>none)|none=>none
theorem E6(h:Gm x=some a):x=some (.ref a):=by
 cases x with
 |none=>cases h
 |some v=>cases v with
  |ref b=>cases h;rfl
  |_=>cases h
noncomputable def Gn(K:Frag)(l:List V)(x:Option Value):Bool:=(Gm x).any λ a=>(K.lookup a).any (Gk l)
theorem IG{K:Frag}(X:K.In h)(e:Gn K l x=true):∃y,x=some y/\RV bH h (.tup l) y:=by
 unfold Gn at e
 cases e1:Gm x with
 |none=>rw[e1] at e;cases e
 |some a=>
  rw[e1] at e
  have e:(K.lookup a).any (Gk l)=true:=e
  cases e2:K.lookup a with
  |none=>rw[e2] at e;cases e
  |some o=>
   rw[e2] at e
   refine fh (E5 e) λ xs n ak bA=>?_;obtain rfl:=ak;refine bV bA λ hl hs=>?_
   exact⟨.ref a,E6 e1,.tup (X _ _ e2) (λ f=>f) hl (E4 hs)⟩
noncomputable def Yz(K:Frag):Bool:=NE.all λ s=>(fY s).all λ l=>Gn K l (findBy Value.isStrOf (DJ K) (jn s))
theorem Ow(h:fY s=some l):s∈NE:=
 (by decide+kernel:∀s:Sy,(fY s).isSome=true->s∈NE) s (by rw[h];rfl)
noncomputable def Go:List (Sy×Nat×Nat):=[(.const,196,23),(.move,199,24),(.global,202,25),(.mR,205,26),(.define,208,27),(.free,211,28),(.closure,214,29),(.fix,218,30),(.prim,220,31),(.d7,224,32),(.dJ,226,33),(.call,229,34),(.give,233,35)]
theorem Lv{es:List DictEntry}(h:es=Go.map λ p=>⟨PyData.keyHash P (jn p.1),.str (jn p.1) p.2.1,.ref p.2.2⟩):∀e∈es,∃k,Value.isStrOf k e.key=true/\e.hash=PyData.keyHash P k:=by
 rw[h]
 intro e m
 refine aG (iE m) λ p u0 ak=>?_;obtain rfl:=ak
 exact⟨jn p.1,beq_self_eq_true _,rfl⟩
noncomputable def I3(K:Frag)(f:Fn):Bool:=decide (f=.MI)||(((Ju K (Am f)).isSome&&dG K (lN f) (prog f).arity (mK K (Am f)))&&Ff (mK K (Am f)).scope ((lN f).zipIdx 0) (prog f).body (n5 (mK K (Am f))))
noncomputable def Qo(K:Frag):Bool:=((Ju K 542).isSome&&dG K (lN .MI) 1 (mK K 542))&&Ff (mK K 542).scope ((lN .MI).zipIdx 0) Ca (n5 (mK K 542)).tail&&
 (d5 (mK K 542).scope ((lN .MI).zipIdx 0) "script" 0&&d5 (mK K 542).scope ((lN .MI).zipIdx 0) "deck" 1&&cg (mK K 542).scope "list")
noncomputable def Wr(K:Frag):Bool:=Yv K&&Yw K&&Yx K&&(Yy K&&Yz K&&vz (nsIn K mainGlobals "OPERANDS") 22&&vz (nsIn K mainGlobals "law") 542)
noncomputable def Ws(K:Frag):Bool:=Ys K&&Yt K&&Yu K
structure Facts (KP:Params->Frag):Prop where
 o0:∀P,(jr.take 16).all (I3 (KP P))=true
 o1:∀P,((jr.drop 16).take 16).all (I3 (KP P))=true
 o2:∀P,((jr.drop 32).take 16).all (I3 (KP P))=true
 o3:∀P,(jr.drop 48).all (I3 (KP P))=true
 lw:∀P,Qo (KP P)=true
 ns:∀P,Wr (KP P)=true
 kf:∀P,Ws (KP P)=true
 oa:∀P,(KP P).lookup 22=some (iN (DJ (KP P)) (Qm (KP P)))
 ol:∀P,(DJ (KP P)).toList=Go.map λ p=>⟨PyData.keyHash P (jn p.1),.str (jn p.1) p.2.1,.ref p.2.2⟩
 lb:∀P,n5 (mK (KP P) 542)=.Assign [.Name "deck" ⟨480,4,480,8⟩] (.List [.Subscript (.Call (.Name "list" ⟨480,12,480,16⟩) [.Name "script" ⟨480,17,480,23⟩] [] ⟨480,12,480,24⟩) (.Slice none (some (.Constant (.int 40) 0 ⟨480,26,480,28⟩)) none ⟨480,25,480,28⟩) ⟨480,12,480,29⟩,.Constant (.int 0) 0 ⟨480,31,480,32⟩] ⟨480,11,480,33⟩) ⟨480,4,480,33⟩::(n5 (mK (KP P) 542)).tail
 bd:∀P (f:Fn) (fX:List Value),fX.length=(prog f).arity->bindArgs (mK (KP P) (Am f)) ⟨fX,[]⟩=pure (((lN f).take (prog f).arity).zip fX)
theorem xg{α:Type}{p:α->Bool}{l:List α}(n:Nat)(a:(l.take n).all p=true)(b:(l.drop n).all p=true):l.all p=true:=by
 rw[←List.take_append_drop n l,List.all_append,a,b];rfl
section
variable {KP : Params -> Frag} (F : Facts KP) {w : World} {mg mb : Str -> Option Value} {h₀ : Heap}
include F
theorem Facts.ok(P:Params):jr.all (I3 (KP P))=true:=xg 16 (F.o0 P) (xg 16 (F.o1 P) (xg 16 (by rw[List.drop_drop];exact F.o2 P) (by rw[List.drop_drop,List.drop_drop];exact F.o3 P)))
theorem YA(hK:B.K=KP P)(TU:B.ca=DS)(IV:B.fa=Am):KF B:=by
 have c7:=λ c=>rF (cu (F.kf P)).1 c (xc c)
 have ca:=λ c a=>tJ (rF (rF (cu (F.kf P)).2.1 c (xc c)) a (Ou a))
 have cf:=λ f=>rF (cu (F.kf P)).2.2 f (wN f)
 simp only[Bool.and_eq_true] at c7 cf
 refine⟨?_,?_,?_,?_,?_,?_,?_,?_,?_,?_,?_⟩<;>(try rw[hK])<;>(try rw[TU])<;>(try rw[IV])
 ·exact λ c n=>(c7 c).1.1.1.1.1.1
 ·exact λ c=>(c7 c).1.1.1.1.1.2
 ·exact λ c a e=>(ca c a).trans (by rw[e];rfl)
 ·exact λ c a f e=>(ca c a).trans (by rw[e];rfl)
 ·exact λ f=>(cf f).1
 ·exact λ c=>tJ (c7 c).1.1.1.1.2
 ·exact λ c=>(c7 c).1.1.1.2
 ·exact λ c=>(c7 c).1.1.2
 ·exact λ c=>tJ (c7 c).1.2
 ·exact λ c=>(c7 c).2
 ·exact λ f=>(cf f).2
theorem YB(hK:B.K=KP P)(hw:B.w.params=P)(TU:B.ca=DS)(IV:B.fa=Am):KN B:=by
 have X:=B.X
 rw[hK] at X
 refine⟨λ s y e=>?_,λ f y e=>?_,λ c=>?_,λ y m=>?_,22,findBy Value.isStrOf (DJ (KP P)),?_,?_,λ y l e=>?_⟩
 ·have:=rF (dm (F.ns P)).1 s (wF s)
  rw[e] at this
  refine aK (E3 this) λ t e=>?_
  exact⟨t,mg_of X B.g e⟩
 ·have:=rF (dm (F.ns P)).2.1 f (wN f)
  rw[e] at this
  rw[IV]
  exact mg_of X B.g (pH this)
 ·rw[TU]
  exact mg_of X B.g (pH (rF (dm (F.ns P)).2.2.1 c (xc c)))
 ·exact mg_none_of X B.g (IF (rF (dm (dm (F.ns P)).2.2.2).1 y m))
 ·exact mg_of X B.g (pH (dm (dm (F.ns P)).2.2.2).2.2.1)
 ·refine⟨_,_,_,X 22 _ (F.oa P),⟨rfl,rfl,rfl⟩,rfl,λ e m=>?_,λ u0=>rfl⟩
  refine aG (Lv (F.ol P) e (Array.mem_toList_iff.mpr m)) λ k e1 e2=>?_
  exact⟨k,e1,e2.trans (by rw[←hw];rfl)⟩
 ·have:=rF (dm (dm (F.ns P)).2.2.2).2.1 y (Ow e)
  rw[e] at this
  exact IG X this
theorem RU(hK:B.K=KP P)(IV:B.fa=Am)(f:Fn):(∃names ρ fd body,CG prog B f names ρ fd body)\/(prog f).body=.cons .wall .nil:=by
 have h:=rF (F.ok P) f (wN f)
 rcases sG h with h|h
 ·rw[gS h];exact .inr rfl
 ·have X:=B.X
  rw[hK] at X
  refine bV (bm h) λ ck mt=>?_
  refine bV (bm ck) λ c1 c2=>?_
  refine aG (zn c1) λ o e1 e2=>?_
  refine gM (dm (cu c2).1) λ a1 a2 u0 u0=>?_
  exact .inl ⟨_,_,_,_,⟨o,by rw[IV];exact X _ _ e1,e2⟩,codeRec_of X a2,pQ a1,GV c2 (F.bd P f),mt,λ e=>by rw[e];rfl⟩
end
noncomputable abbrev BB{KP:Params->Frag}{w:World}{mg mb:Str->Option Value}{h₀:Heap}(X:(KP w.params).In h₀)(g:h₀.Ns mainGlobals mg)(b:h₀.Ns builtinsNs mb)(nl:h₀.NoLimit)(bt:∀x:Str,x≠"__name__"->mb x=bootBuiltins x):Base:=
 {Z:=bH,w,prog:=PySem.Challenge.rw_nt0190_01.row.toRowW.prog,h₀,K:=KP w.params,mg,mb,ca:=DS,fa:=Am,X,g,b,nolimit:=nl,bt}
theorem IH{KP:Params->Frag}(F:Facts KP){mg mb:Str->Option Value}(X:(KP w.params).In aW.heap)(g:aW.heap.Ns mainGlobals mg)(b:aW.heap.Ns builtinsNs mb)(nl:aW.heap.NoLimit)(bt:∀x:Str,x≠"__name__"->mb x=bootBuiltins x)
 {l:Nat}{vs:List Value}(hl:aW.heap.IsList l vs.toArray)(hi:∀v∈vs,∃n t,v=.int n t)(hn:vs.length<=63)(hh:A.handled=none)(hu:A.units<=100)(hd:A.depth+100<recursionLimit):
  codeAny (model PySem.Challenge.rw_nt0190_01.row.toRowW.prog w) A (.call (.ref 542) ⟨[.ref l],[]⟩) (λ r s'=>r=.ok (.ret (.bool true))/\(∃h' tk,s'={aW with heap:=h',toks:=tk})/\∀b o,aW.heap.get? b=some o->s'.heap.get? b=some o) aW:=by
 refine fy (cu (F.lw w.params)) λ ck mt v=>?_
 refine bV (bm ck) λ c1 c2=>?_
 refine fy (cu v) λ v0 v1 vl=>?_
 refine aG (zn c1) λ o e1 e2=>?_
 refine gM (dm (cu c2).1) λ a1 a2 a3 a4=>?_
 exact Lp (B:=BB X g b nl bt) (YB F rfl rfl rfl rfl) (YA F rfl rfl rfl) (RU F rfl rfl) (λ u0 f=>f) rfl (X _ _ e1) e2 (codeRec_of X a2) ((pQ a1).trans (congrArg FuncBody.stmts (F.lb _))) (GV c2 (F.bd _ .MI)) v0 v1 vl mt hl hi hn hh hu hd
theorem II(h:IntsAre vs ns):∀v∈vs,∃n t,v=.int n t:=by
 induction h with
 |nil=>nofun
 |cons n t r ih=>exact λ v m=>(ci m).elim (λ e=>⟨n,t,e⟩) (ih v)
theorem Lw{KP:Params->Frag}(F:Facts KP){lo:List Str}{mg mb:Str->Option Value}(X:(KP w.params).In aW.heap)(R:TopRead p lo mg mb aW.heap){l:Nat}{vs:List Value}{ns:List Int}
  (hL:aW.heap.IsList l vs.toArray)(hI:IntsAre vs ns)(hn:¬(63:Int)<ns.length)(hg:aW.gens=#[]){cl:Str->Option Addr}{Qp:ExcName->Option Value}{mD:List WData}
  (hr:∀cls,PySem.Challenge.rw_nt0190_01.row.toRowW.claim.raises mD cls=false)(hp:PySem.Challenge.rw_nt0190_01.row.toRowW.claim.post mD (.bool true) mD=true):
  wpAny (model PySem.Challenge.rw_nt0190_01.row.toRowW.prog w) callerA (call (.ref 542) [.ref l])
   (λ v s'=>GoodWG PySem.Challenge.rw_nt0190_01.row.toRowW.claim cl Qp mD aW (.ok (.ret v)) s') (λ e s'=>GoodWG PySem.Challenge.rw_nt0190_01.row.toRowW.claim cl Qp mD aW (.error e) s') aW:=by
 have cT:vs.length=ns.length:=hI.length
 refine wpAny_call (codeAny_mono (IH F X R.g R.b R.nolimit R.builtins hL (II hI) (cT ▸ Int.ofNat_le.mp (Int.not_lt.mp hn)) rfl (by decide) (by decide)) λ r s' q=>?_)
 refine bV q λ ak bA=>?_;obtain rfl:=ak;refine bV bA λ Fd k=>?_;refine gN Fd λ h' tk ak=>?_;obtain rfl:=ak
 exact⟨.inl ⟨.bool true,_,[],rfl,hr,ReadsW.bool _,hp,λ u0=>⟨List.nodup_nil,nofun⟩⟩,.of_keep k,rfl,.of_eq hg⟩
theorem QR{KP:Params->Frag}{w:World}{h:Heap}(_:(KP w.params).In h)(o0:∀P,(jr.take 16).all (I3 (KP P))=true)(o1:∀P,((jr.drop 16).take 16).all (I3 (KP P))=true)(o2:∀P,((jr.drop 32).take 16).all (I3 (KP P))=true)(o3:∀P,(jr.drop 48).all (I3 (KP P))=true)
  (lw:∀P,Qo (KP P)=true)(ns:∀P,Wr (KP P)=true)(kf:∀P,Ws (KP P)=true)(oa:∀P,(KP P).lookup 22=some (iN (DJ (KP P)) (Qm (KP P))))(ol:∀P,(DJ (KP P)).toList=Go.map λ p=>⟨PyData.keyHash P (jn p.1),.str (jn p.1) p.2.1,.ref p.2.2⟩)
  (lb:∀P,n5 (mK (KP P) 542)=.Assign [.Name "deck" ⟨480,4,480,8⟩] (.List [.Subscript (.Call (.Name "list" ⟨480,12,480,16⟩) [.Name "script" ⟨480,17,480,23⟩] [] ⟨480,12,480,24⟩) (.Slice none (some (.Constant (.int 40) 0 ⟨480,26,480,28⟩)) none ⟨480,25,480,28⟩) ⟨480,12,480,29⟩,.Constant (.int 0) 0 ⟨480,31,480,32⟩] ⟨480,11,480,33⟩) ⟨480,4,480,33⟩::(n5 (mK (KP P) 542)).tail)(bd:∀P,Ql (λ f:Fn=>∀fX:List Value,fX.length=(prog f).arity->bindArgs (mK (KP P) (Am f)) ⟨fX,[]⟩=pure (((lN f).take (prog f).arity).zip fX)) jr):Facts KP:=⟨o0,o1,o2,o3,lw,ns,kf,oa,ol,lb,λ P f=>Ls (bd P) f (wN f)⟩
end
set_option maxHeartbeats 8000000
theorem top.tw883126985890332327:0=0:=rfl
theorem top.tw15937251751513688862:0=0:=rfl
theorem top.tw16541100652227675460:0=0:=rfl
theorem top.tw10275075744731209649:0=0:=rfl
theorem top.tw14689303997561334279:0=0:=rfl
theorem top.tw16938921287264067795:0=0:=rfl
theorem top.tw18064794426631996164:0=0:=rfl
theorem top.tw13931129258870404218:0=0:=rfl
theorem top.tw10365906365248206650:0=0:=rfl
theorem top.tw12197428465977751366:0=0:=rfl
theorem top.tw9457276450043926722:0=0:=rfl
theorem top.tw15548470053897091947:0=0:=rfl
theorem top.tw16598799759364053327:0=0:=rfl
theorem top.tw17676246674727348000:0=0:=rfl
theorem top.tw13994475860397038760:0=0:=rfl
theorem top.tw6497835594395633234:0=0:=rfl
theorem top.tw7292864349241787824:0=0:=rfl
theorem top.tw17219337458794519322:0=0:=rfl
theorem top.tw4947570209858738039:0=0:=rfl
theorem top.tw10706379575450619462:0=0:=rfl
theorem top.tw6674990990233134667:0=0:=rfl
theorem top.tw3207569582813703071:0=0:=rfl
theorem top.tw13223034962123697568:0=0:=rfl
theorem top.tw6572447435987645144:0=0:=rfl
theorem top.tw2727672472851901052:0=0:=rfl
theorem top.tw3669314199184481253:0=0:=rfl
theorem top.tw14436450140739016385:0=0:=rfl
theorem top.tw10774637447528242797:0=0:=rfl
theorem top.tw9768079942903668216:0=0:=rfl
theorem top.tw2533078294621698928:0=0:=rfl
theorem top.tw3002795768020413707:0=0:=rfl
theorem top.tw11616952265938772053:0=0:=rfl
theorem top.tw12209182163369298222:0=0:=rfl
theorem top.tw13889309363888878346:0=0:=rfl
theorem top.tw15092371282622821202:0=0:=rfl
theorem top.tw12483720753089274532:0=0:=rfl
theorem top.tw17103585973383926153:0=0:=rfl
theorem top.tw8265191368974092141:0=0:=rfl
theorem top.tw18186074749648716422:0=0:=rfl
theorem top.tw4177254973167742082:0=0:=rfl
theorem top.tw4736427724481360342:0=0:=rfl
theorem top.tw14537839394382259888:0=0:=rfl
theorem top.tw23087011456773342:0=0:=rfl
theorem top.tw11546936639936008217:0=0:=rfl
theorem top.tw7444641836354208208:0=0:=rfl
theorem top.tw3976154599441133093:0=0:=rfl
theorem top.tw17795014544551873601:0=0:=rfl
theorem top.tw18371284783138465269:0=0:=rfl
theorem top.tw1869187583165140508:0=0:=rfl
theorem top.tw14850738236342790093:0=0:=rfl
theorem top.tw14697636140705633519:0=0:=rfl
theorem top.tw3561193834555079511:0=0:=rfl
theorem top.tw8212240652046128837:0=0:=rfl
theorem top.tw6919701780365589675:0=0:=rfl
theorem top.tw9361663168868926718:0=0:=rfl
theorem top.tw17177869089781658578:0=0:=rfl
theorem top.tw17886615442053742456:0=0:=rfl
theorem top.tw6487610083215253720:0=0:=rfl
theorem top.tw17030962893124633753:0=0:=rfl
theorem top.tw1112988674713690477:0=0:=rfl
theorem top.tw8813761850579938390:0=0:=rfl
theorem top.tw5303079699428457377:0=0:=rfl
theorem top.tw18177719399980262173:0=0:=rfl
theorem top.tw1321871150748368714:0=0:=rfl
theorem top.tw8410488445778877200:0=0:=rfl
theorem top.tw3422688185749166683:0=0:=rfl
theorem top.tw10006222313960134694:0=0:=rfl
theorem top.tw4859757453598101857:0=0:=rfl
theorem top.tw2555065506035805374:0=0:=rfl
theorem top.tw1706793611546318481:0=0:=rfl
theorem top.tw7429413206186439793:0=0:=rfl
theorem top.tw16900427199656544559:0=0:=rfl
theorem top.tw14987219478266130788:0=0:=rfl
theorem top.tw3584897518013459382:0=0:=rfl
theorem top.tw14374289702345001990:0=0:=rfl
theorem top.tw864819663365544661:0=0:=rfl
theorem top.tw4526881389914513428:0=0:=rfl
theorem top.tw9442318146202087700:0=0:=rfl
theorem top.tw6491118196486620199:0=0:=rfl
theorem top.tw13326734554550294991:0=0:=rfl
theorem top.tw16800595933775061595:0=0:=rfl
theorem top.tw1843344800811705456:0=0:=rfl
theorem top.tw956942650209027819:0=0:=rfl
theorem top.tw10399464001100048223:0=0:=rfl
theorem top.tw12540527436937284434:0=0:=rfl
theorem top.tw4916261283513009128:0=0:=rfl
theorem top.tw7600245330811189008:0=0:=rfl
theorem top.tw9743097575036673082:0=0:=rfl
theorem top.tw8265311939077410998:0=0:=rfl
theorem top.tw13706816188851595723:0=0:=rfl
theorem top.tw6286779285267259847:0=0:=rfl
theorem top.tw14615657086365298920:0=0:=rfl
theorem top.tw6662652255960138227:0=0:=rfl
theorem top.tw6189502492464219833:0=0:=rfl
theorem top.tw2758071753971750899:0=0:=rfl
theorem top.tw17565814175750979855:0=0:=rfl
theorem top.tw12317137736924338119:0=0:=rfl
theorem top.tw17492772389151264855:0=0:=rfl
theorem top.tw8139039716903228087:0=0:=rfl
theorem top.tw6749217079512962374:0=0:=rfl
theorem top.tw13822267516522204269:0=0:=rfl
theorem top.tw775762912060472103:0=0:=rfl
theorem top.tw13710211086531791108:0=0:=rfl
theorem top.tw16196420915677631385:0=0:=rfl
theorem top.tw18164388396756303480:0=0:=rfl
theorem top.tw9614876229902214918:0=0:=rfl
theorem top.tw13420762306968818387:0=0:=rfl
theorem top.tw12958502747184954254:0=0:=rfl
theorem top.tw16352630495959832749:0=0:=rfl
theorem top.tw2741389259953327712:0=0:=rfl
theorem top.tw2312856594315299383:0=0:=rfl
theorem top.tw6370870915552960936:0=0:=rfl
theorem top.tw4047667213573674445:0=0:=rfl
theorem top.tw1040915598704419856:0=0:=rfl
theorem top.tw5244899138074338376:0=0:=rfl
theorem top.tw14282377253939248939:0=0:=rfl
theorem top.tw12342655685612074800:0=0:=rfl
theorem top.tw7008692893051332821:0=0:=rfl
theorem top.tw4321519831107876412:0=0:=rfl
theorem top.tw17355269125676882429:0=0:=rfl
theorem top.tw14632489290957082403:0=0:=rfl
theorem top.tw1195175773429642966:0=0:=rfl
theorem top.tw17810072253543177317:0=0:=rfl
theorem top.tw2377541652452675900:0=0:=rfl
theorem top.tw12819366960792805191:0=0:=rfl
theorem top.tw342308947776675178:0=0:=rfl
theorem top.tw14390669486469195807:0=0:=rfl
theorem top.tw14402358008270493973:0=0:=rfl
theorem top.tw15787364395269599680:0=0:=rfl
theorem top.tw3855276242980373810:0=0:=rfl
theorem top.tw6127594578889010139:0=0:=rfl
theorem top.tw13802547742096326172:0=0:=rfl
theorem top.tw15240379268576122478:0=0:=rfl
theorem top.tw2878843996050045342:0=0:=rfl
theorem top.tw14796646475526232899:0=0:=rfl
theorem top.tw620129878449983639:0=0:=rfl
theorem top.tw18237780215024852062:0=0:=rfl
theorem top.tw5225153198818245361:0=0:=rfl
theorem top.tw17022078359063049780:0=0:=rfl
theorem top.tw14747140909534839006:0=0:=rfl
theorem top.tw8143265674769528471:0=0:=rfl
theorem top.tw1601500998369573665:0=0:=rfl
theorem top.tw53344730913325255:0=0:=rfl
theorem top.tw1291508964198565346:0=0:=rfl
theorem top.tw17555251805378815213:0=0:=rfl
theorem top.tw4656485037274611717:0=0:=rfl
theorem top.tw16885616592811714743:0=0:=rfl
theorem top.tw12764151676501842404:0=0:=rfl
theorem top.tw16054190913257422852:0=0:=rfl
theorem top.tw708234853630380328:0=0:=rfl
theorem top.tw8321918168302905379:0=0:=rfl
theorem top.tw15169761463676818070:0=0:=rfl
theorem top.tw9059672392935016618:0=0:=rfl
theorem top.tw11240886729373846589:0=0:=rfl
theorem top.tw13177472732611162249:0=0:=rfl
theorem top.tw10783980745131425670:0=0:=rfl
theorem top.tw9382581127745807760:0=0:=rfl
theorem top.tw13160728816969591200:0=0:=rfl
theorem top.tw9919435345466941130:0=0:=rfl
theorem top.tw9631074621892390191:0=0:=rfl
theorem top.tw1124271682379634556:0=0:=rfl
theorem top.tw11613256710310857696:0=0:=rfl
theorem top.tw5225916559131626549:0=0:=rfl
theorem top.tw10773188271377071773:0=0:=rfl
theorem top.tw11760055953109336660:0=0:=rfl
theorem top.tw7847650389618582240:0=0:=rfl
theorem top.tw381845443943030031:0=0:=rfl
theorem top.tw15722756333993289495:0=0:=rfl
theorem top.tw5523086135645875356:0=0:=rfl
theorem top.tw17323899518341599180:0=0:=rfl
theorem top.tw15877122091014420850:0=0:=rfl
theorem top.tw3776753064480771068:0=0:=rfl
theorem top.tw10648311167861321448:0=0:=rfl
theorem top.tw8043003576528973991:0=0:=rfl
theorem top.tw3739144386018749749:0=0:=rfl
theorem top.tw13370750898655102155:0=0:=rfl
theorem top.tw3474246075231452896:0=0:=rfl
theorem top.tw7198060816514059695:0=0:=rfl
theorem top.tw13290321428070320777:0=0:=rfl
theorem top.tw2287823674025257028:0=0:=rfl
theorem top.tw6196800358849779857:0=0:=rfl
theorem top.tw1617357707322924660:0=0:=rfl
theorem top.tw10008474027749305400:0=0:=rfl
theorem top.tw4671429814451907529:0=0:=rfl
theorem top.tw11845233108574324481:0=0:=rfl
theorem top.tw1585457916280141200:0=0:=rfl
theorem top.tw13307591127769906961:0=0:=rfl
theorem top.tw6624316729101989866:0=0:=rfl
theorem top.tw2145171640123136144:0=0:=rfl
theorem top.tw4840481374290595910:0=0:=rfl
theorem top.tw4205137553216949640:0=0:=rfl
theorem top.tw18085771088847121727:0=0:=rfl
theorem top.tw18289109515434150305:0=0:=rfl
theorem top.tw10936122117785486979:0=0:=rfl
theorem top.tw8140125068956082859:0=0:=rfl
theorem top.tw501154541418245514:0=0:=rfl
theorem top.tw4940147422707163885:0=0:=rfl
theorem top.tw5860347150701562758:0=0:=rfl
theorem top.tw7386116660499605909:0=0:=rfl
theorem top.tw5938664839603501006:0=0:=rfl
theorem top.tw8311017846404947139:0=0:=rfl
theorem top.tw453181688931711583:0=0:=rfl
theorem top.tw8148004212497801138:0=0:=rfl
theorem top.tw4134505453457115739:0=0:=rfl
theorem top.tw10657950659306570408:0=0:=rfl
theorem top.tw4058662728301269685:0=0:=rfl
theorem top.tw14372152842798730730:0=0:=rfl
theorem top.tw3254097082911018636:0=0:=rfl
theorem top.tw14823308797102314842:0=0:=rfl
theorem top.tw7681529838311687354:0=0:=rfl
theorem top.tw16273406610938067001:0=0:=rfl
theorem top.tw7527032243904285869:0=0:=rfl
theorem top.tw5088376156974544275:0=0:=rfl
theorem top.tw9800703332001039478:0=0:=rfl
theorem top.tw5155950481276406077:0=0:=rfl
theorem top.tw10996937224433265937:0=0:=rfl
theorem top.tw9272544492142499777:0=0:=rfl
theorem top.tw427269002284569659:0=0:=rfl
theorem top.tw17953984050398360512:0=0:=rfl
theorem top.tw15361541807878343388:0=0:=rfl
theorem top.tw13303987763403120937:0=0:=rfl
theorem top.tw9227057690007400460:0=0:=rfl
theorem top.tw14263998999751124003:0=0:=rfl
theorem top.tw2462062305354472974:0=0:=rfl
theorem top.tw13272337422414781067:0=0:=rfl
theorem top.tw8443935842833279946:0=0:=rfl
theorem top.tw2007660962349395123:0=0:=rfl
theorem top.tw4213018616267185653:0=0:=rfl
theorem top.tw11443710868159068359:0=0:=rfl
theorem top.tw5278709424875269971:0=0:=rfl
theorem top.tw8363718466572441477:0=0:=rfl
theorem top.tw9259421805112917234:0=0:=rfl
theorem top.tw11582926029173025856:0=0:=rfl
theorem top.tw72247145696351765:0=0:=rfl
theorem top.tw1886144042066472794:0=0:=rfl
theorem top.tw5058314954733539658:0=0:=rfl
theorem top.tw4713442408853163898:0=0:=rfl
theorem top.tw6883741973766446791:0=0:=rfl
theorem top.tw9335426496214029073:0=0:=rfl
theorem top.tw6885214360128481674:0=0:=rfl
theorem top.tw12787338502077490372:0=0:=rfl
theorem top.tw2464713573024523455:0=0:=rfl
theorem top.tw9229161468869434483:0=0:=rfl
theorem top.tw4655869559712951663:0=0:=rfl
theorem top.tw1139600151236580504:0=0:=rfl
theorem top.tw15286249088069653756:0=0:=rfl
theorem top.tw16325430554902658873:0=0:=rfl
theorem top.tw2847958352784047137:0=0:=rfl
theorem top.tw2907113945770861938:0=0:=rfl
theorem top.tw11922380849998532372:0=0:=rfl
theorem top.tw16439428074185983240:0=0:=rfl
theorem top.tw13001836021917841797:0=0:=rfl
theorem top.tw14597223018079223185:0=0:=rfl
theorem top.tw2665807947273092163:0=0:=rfl
theorem top.tw12718909917080609646:0=0:=rfl
theorem top.tw5667650583090716360:0=0:=rfl
theorem top.tw2617719716777270872:0=0:=rfl
theorem top.tw1149218181149386328:0=0:=rfl
theorem top.tw10956490626425055710:0=0:=rfl
theorem top.tw17486766287000646611:0=0:=rfl
theorem top.tw15177526630643400193:0=0:=rfl
theorem top.tw5766051744304087583:0=0:=rfl
theorem top.tw9739860059890490050:0=0:=rfl
theorem top.tw1212798325632107971:0=0:=rfl
theorem top.tw14349089067433371257:0=0:=rfl
theorem top.tw105208000716104510:0=0:=rfl
theorem top.tw8472579005086612782:0=0:=rfl
theorem top.tw11430207588045935325:0=0:=rfl
theorem top.tw14399976873020721970:0=0:=rfl
theorem top.tw4828031223510198475:0=0:=rfl
theorem top.tw7715697345341360870:0=0:=rfl
theorem top.tw10574840078274726829:0=0:=rfl
theorem top.tw8204474986945543665:0=0:=rfl
theorem top.tw5915399644114372684:0=0:=rfl
theorem top.tw47109162367338493:0=0:=rfl
theorem top.tw6930518751129746686:0=0:=rfl
theorem top.tw681777741448182936:0=0:=rfl
theorem top.tw1833847959688406909:0=0:=rfl
theorem top.tw9059832203979395877:0=0:=rfl
theorem top.tw9108098604805947806:0=0:=rfl
theorem top.tw1638113669730673903:0=0:=rfl
theorem top.tw1988063486488863061:0=0:=rfl
theorem top.tw6973401727384321114:0=0:=rfl
theorem top.tw12535971307161669396:0=0:=rfl
theorem top.tw16204670001084760307:0=0:=rfl
theorem top.tw15646934709686841381:0=0:=rfl
theorem top.tw6292954644110606532:0=0:=rfl
theorem top.tw3315250197877816394:0=0:=rfl
theorem top.tw7847352863974893604:0=0:=rfl
theorem top.tw3730354652608582461:0=0:=rfl
theorem top.tw8689318265317240412:0=0:=rfl
theorem top.tw13091174067606910046:0=0:=rfl
theorem top.tw11520865232209809239:0=0:=rfl
theorem top.tw2514443458684651071:0=0:=rfl
theorem top.tw4392038535549328194:0=0:=rfl
theorem top.tw3217022616335106338:0=0:=rfl
theorem top.tw13044034144603486326:0=0:=rfl
theorem top.tw12166907935582030026:0=0:=rfl
theorem top.tw9913501989792142831:0=0:=rfl
theorem top.tw8622502720953521162:0=0:=rfl
theorem top.tw18063644159110109576:0=0:=rfl
theorem top.tw10448899703829047738:0=0:=rfl
theorem top.tw18367679650794681301:0=0:=rfl
theorem top.tw5581607755468803823:0=0:=rfl
theorem top.tw14762295962024373759:0=0:=rfl
theorem top.tw12094960947251128927:0=0:=rfl
theorem top.tw13369591340354186047:0=0:=rfl
theorem top.tw863851084119721304:0=0:=rfl
theorem top.tw14724332232928298890:0=0:=rfl
theorem top.tw5597187220613765494:0=0:=rfl
theorem top.tw2220570432770164149:0=0:=rfl
theorem top.tw15245507539482535896:0=0:=rfl
theorem top.tw17470836177267949868:0=0:=rfl
theorem top.tw6430265229019958763:0=0:=rfl
theorem top.tw10567129059001840431:0=0:=rfl
theorem top.tw9166809390415177425:0=0:=rfl
theorem top.tw8729362747519067210:0=0:=rfl
theorem top.tw9951221954081769418:0=0:=rfl
theorem top.tw3767615275625035234:0=0:=rfl
theorem top.tw12385144161495827662:0=0:=rfl
theorem top.tw16795567611416646642:0=0:=rfl
theorem top.tw8507776931139520737:0=0:=rfl
theorem top.tw297971269722091814:0=0:=rfl
theorem top.tw1016984595167383106:0=0:=rfl
theorem top.tw10090393231696489298:0=0:=rfl
theorem top.tw5476889619067714990:0=0:=rfl
theorem top.tw11199532085631943738:0=0:=rfl
theorem top.tw4166218997396506358:0=0:=rfl
theorem top.tw11334415319851112604:0=0:=rfl
theorem top.tw9601329371697537090:0=0:=rfl
theorem top.tw6333448901615975916:0=0:=rfl
theorem top.tw2985252069258134486:0=0:=rfl
theorem top.tw15878805988109762761:0=0:=rfl
theorem top.tw8523463495250067690:0=0:=rfl
theorem top.tw3261557481417251176:0=0:=rfl
theorem top.tw7990429038631628895:0=0:=rfl
theorem top.tw7458633546980236471:0=0:=rfl
theorem top.tw4498253355057717688:0=0:=rfl
theorem top.tw15569959144833144457:0=0:=rfl
theorem top.tw16782997733028217545:0=0:=rfl
theorem top.tw908825868028484722:0=0:=rfl
theorem top.tw13896958669275611876:0=0:=rfl
theorem top.tw6431110157172167083:0=0:=rfl
theorem top.tw9503340733035011235:0=0:=rfl
theorem top.tw2732273902793177162:0=0:=rfl
theorem top.tw17342085116792181814:0=0:=rfl
theorem top.tw2249405535684624136:0=0:=rfl
theorem top.tw18086089286151905521:0=0:=rfl
theorem top.tw1245559373397905713:0=0:=rfl
theorem top.tw14502225709538309166:0=0:=rfl
theorem top.tw15299407806266782574:0=0:=rfl
theorem top.tw14826035006057030972:0=0:=rfl
theorem top.tw16719718919923625709:0=0:=rfl
theorem top.tw10617020205504526918:0=0:=rfl
theorem top.tw2782073688633401757:0=0:=rfl
theorem top.tw12318557346453588183:0=0:=rfl
theorem top.tw8679839319945467846:0=0:=rfl
set_option Elab.async true
theorem top:PySem.Challenge.rw_nt0190_01.Holds:=by
 w_on
 o_law
 k_head
 (case hw=>w_witness2)
 intro w YK aW mg mb G Y fa o pm cd Y6 dV kV ho Pn OG hD Wt hg mD fX as Vg Vh YC YD YE
 have X:=kIn_of Y
 have F:=QR (KP:=_) X (λ P=>by kernel_rfl) (λ P=>by kernel_rfl) (λ P=>by kernel_rfl) (λ P=>by kernel_rfl) (λ P=>by kernel_rfl) (λ P=>by kernel_rfl) (λ P=>by kernel_rfl) (λ P=>by kernel_rfl) (λ P=>by kernel_rfl) (λ P=>by kernel_rfl)
  (λ P=>by(repeat' (refine And.intro ?_ ?_))<;>first|exact trivial|exact MB λ u0=>by kernel_rfl|exact MC λ u0 u0=>by kernel_rfl|exact MD λ u0 u0 u0=>by kernel_rfl|exact ME λ u0 u0 u0 u0=>by kernel_rfl|exact MF λ u0 u0 u0 u0 u0=>by kernel_rfl|exact RQ λ u0 u0 u0 u0 u0 u0 u0 u0 u0=>by kernel_rfl)
 refine Ground.open G ?_
 intro T B D TE TW
 have R:=topRead_of T
 clear B D TE TW T G Y OG hD Pn ho
 have e:some (Value.ref fa)=some (.ref 542):=Wt.symm.trans (mg_of X R.g (pH (dm (dm (F.ns w.params)).2.2.2).2.2.2))
 clear Wt
 injection e with e
 injection e with e
 subst e
 wrow_args Vg Vh YC YD YE
 exact Lw F X R (by assumption) (by assumption) (by assumption) hg (λ u0=>rfl) (by wrow_post)
end Mine
end
theorem PySem.Challenge.cw_nt0190_01_holds : PySem.Challenge.rw_nt0190_01.Holds :=
  Mine.top
