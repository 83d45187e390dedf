import PyProof.Rows.All
import Wide.All
import OpenK.AllK
import Wide.FinOn
import KE.KLam
import KE.KSuper
import KE.KSortTup
import PySem.Challenge.RW_no0025_01
set_option Elab.async false
set_option linter.all false
set_option tactic.hygienic false
set_option maxRecDepth 100000
set_option maxHeartbeats 4000000
namespace Mp
set_option genInjectivity false
set_option genSizeOf false
structure Nm where
 i:Fin 99
 deriving DecidableEq
structure aJ where
 i:Fin 83
 deriving DecidableEq
noncomputable def Nm.ofNat(n:Nat):Nm:=⟨⟨n % 99,Nat.mod_lt _ (Nat.le_of_ble_eq_true rfl)⟩⟩
noncomputable def aJ.ofNat(n:Nat):aJ:=⟨⟨n % 83,Nat.mod_lt _ (Nat.le_of_ble_eq_true rfl)⟩⟩
noncomputable def Nm.X:Nm:=.ofNat 0
noncomputable def Nm.oS:Nm:=.ofNat 1
noncomputable def Nm.step:Nm:=.ofNat 2
noncomputable def Nm.lq:Nm:=.ofNat 3
noncomputable def Nm.heap:Nm:=.ofNat 4
noncomputable def Nm.jk:Nm:=.ofNat 5
noncomputable def Nm.var:Nm:=.ofNat 6
noncomputable def Nm.cC:Nm:=.ofNat 7
noncomputable def Nm.gu:Nm:=.ofNat 8
noncomputable def Nm.n:Nm:=.ofNat 9
noncomputable def Nm.cT:Nm:=.ofNat 10
noncomputable def Nm.above:Nm:=.ofNat 11
noncomputable def Nm.left:Nm:=.ofNat 12
noncomputable def Nm.right:Nm:=.ofNat 13
noncomputable def Nm.below:Nm:=.ofNat 14
noncomputable def Nm.Dl:Nm:=.ofNat 15
noncomputable def Nm.Ox:Nm:=.ofNat 16
noncomputable def Nm.yh:Nm:=.ofNat 17
noncomputable def Nm.xj:Nm:=.ofNat 18
noncomputable def Nm.wi:Nm:=.ofNat 19
noncomputable def Nm.Cq:Nm:=.ofNat 20
noncomputable def Nm.lit:Nm:=.ofNat 21
noncomputable def Nm.ft:Nm:=.ofNat 22
noncomputable def Nm.bR:Nm:=.ofNat 23
noncomputable def Nm.eJ:Nm:=.ofNat 24
noncomputable def Nm.k:Nm:=.ofNat 25
noncomputable def Nm.jy:Nm:=.ofNat 26
noncomputable def Nm.nj:Nm:=.ofNat 27
noncomputable def Nm.iR:Nm:=.ofNat 28
noncomputable def Nm.kx:Nm:=.ofNat 29
noncomputable def Nm.pX:Nm:=.ofNat 30
noncomputable def Nm.rS:Nm:=.ofNat 31
noncomputable def Nm.lN:Nm:=.ofNat 32
noncomputable def Nm.iU:Nm:=.ofNat 33
noncomputable def Nm.qI:Nm:=.ofNat 34
noncomputable def Nm.head:Nm:=.ofNat 35
noncomputable def Nm.iq:Nm:=.ofNat 36
noncomputable def Nm.fS:Nm:=.ofNat 37
noncomputable def Nm.cK:Nm:=.ofNat 38
noncomputable def Nm.uv:Nm:=.ofNat 39
noncomputable def Nm.zh:Nm:=.ofNat 40
noncomputable def Nm.vj:Nm:=.ofNat 41
noncomputable def Nm.ox:Nm:=.ofNat 42
noncomputable def Nm.bO:Nm:=.ofNat 43
noncomputable def Nm.Dz:Nm:=.ofNat 44
noncomputable def Nm.dM:Nm:=.ofNat 45
noncomputable def Nm.count:Nm:=.ofNat 46
noncomputable def Nm.yk:Nm:=.ofNat 47
noncomputable def Nm.mD:Nm:=.ofNat 48
noncomputable def Nm.fZ:Nm:=.ofNat 49
noncomputable def Nm.gj:Nm:=.ofNat 50
noncomputable def Nm.vQ:Nm:=.ofNat 51
noncomputable def Nm.de:Nm:=.ofNat 52
noncomputable def Nm.fH:Nm:=.ofNat 53
noncomputable def Nm.d8:Nm:=.ofNat 54
noncomputable def Nm.dK:Nm:=.ofNat 55
noncomputable def Nm.iF:Nm:=.ofNat 56
noncomputable def Nm.qK:Nm:=.ofNat 57
noncomputable def Nm.rW:Nm:=.ofNat 58
noncomputable def Nm.nK:Nm:=.ofNat 59
noncomputable def Nm.ux:Nm:=.ofNat 60
noncomputable def Nm.j4:Nm:=.ofNat 61
noncomputable def Nm.qe:Nm:=.ofNat 62
noncomputable def Nm.wL:Nm:=.ofNat 63
noncomputable def Nm.q7:Nm:=.ofNat 64
noncomputable def Nm.ur:Nm:=.ofNat 65
noncomputable def Nm.eH:Nm:=.ofNat 66
noncomputable def Nm.first:Nm:=.ofNat 67
noncomputable def Nm.qG:Nm:=.ofNat 68
noncomputable def Nm.bU:Nm:=.ofNat 69
noncomputable def Nm.aY:Nm:=.ofNat 70
noncomputable def Nm.done:Nm:=.ofNat 71
noncomputable def Nm.Ii:Nm:=.ofNat 72
noncomputable def Nm.mO:Nm:=.ofNat 73
noncomputable def Nm.lY:Nm:=.ofNat 74
noncomputable def Nm.rO:Nm:=.ofNat 75
noncomputable def Nm.gq:Nm:=.ofNat 76
noncomputable def Nm.OH:Nm:=.ofNat 77
noncomputable def Nm.iw:Nm:=.ofNat 78
noncomputable def Nm.FZ:Nm:=.ofNat 79
noncomputable def Nm.sO:Nm:=.ofNat 80
noncomputable def Nm.rule:Nm:=.ofNat 81
noncomputable def Nm.tG:Nm:=.ofNat 82
noncomputable def Nm.F8:Nm:=.ofNat 83
noncomputable def Nm.tO:Nm:=.ofNat 84
noncomputable def Nm.cells:Nm:=.ofNat 85
noncomputable def Nm.vE:Nm:=.ofNat 86
noncomputable def Nm.fP:Nm:=.ofNat 87
noncomputable def Nm.jv:Nm:=.ofNat 88
noncomputable def Nm.pQ:Nm:=.ofNat 89
noncomputable def Nm.size:Nm:=.ofNat 90
noncomputable def Nm.row:Nm:=.ofNat 91
noncomputable def Nm.fW:Nm:=.ofNat 92
noncomputable def Nm.eK:Nm:=.ofNat 93
noncomputable def Nm.fj:Nm:=.ofNat 94
noncomputable def Nm.given:Nm:=.ofNat 95
noncomputable def Nm.uw:Nm:=.ofNat 96
noncomputable def Nm.«at»:Nm:=.ofNat 97
noncomputable def Nm.aft:Nm:=.ofNat 98
noncomputable def aJ.m9:aJ:=.ofNat 0
noncomputable def aJ.vW:aJ:=.ofNat 1
noncomputable def aJ.Cz:aJ:=.ofNat 2
noncomputable def aJ.vV:aJ:=.ofNat 3
noncomputable def aJ.Hk:aJ:=.ofNat 4
noncomputable def aJ.qP:aJ:=.ofNat 5
noncomputable def aJ.CD:aJ:=.ofNat 6
noncomputable def aJ.Cw:aJ:=.ofNat 7
noncomputable def aJ.CE:aJ:=.ofNat 8
noncomputable def aJ.CA:aJ:=.ofNat 9
noncomputable def aJ.yU:aJ:=.ofNat 10
noncomputable def aJ.Hl:aJ:=.ofNat 11
noncomputable def aJ.Hj:aJ:=.ofNat 12
noncomputable def aJ.Cy:aJ:=.ofNat 13
noncomputable def aJ.CC:aJ:=.ofNat 14
noncomputable def aJ.CB:aJ:=.ofNat 15
noncomputable def aJ.ot:aJ:=.ofNat 16
noncomputable def aJ.BK:aJ:=.ofNat 17
noncomputable def aJ.sH:aJ:=.ofNat 18
noncomputable def aJ.Fe:aJ:=.ofNat 19
noncomputable def aJ.jZ:aJ:=.ofNat 20
noncomputable def aJ.HL:aJ:=.ofNat 21
noncomputable def aJ.ic:aJ:=.ofNat 22
noncomputable def aJ.pD:aJ:=.ofNat 23
noncomputable def aJ.HR:aJ:=.ofNat 24
noncomputable def aJ.C1:aJ:=.ofNat 25
noncomputable def aJ.zg:aJ:=.ofNat 26
noncomputable def aJ.C3:aJ:=.ofNat 27
noncomputable def aJ.HT:aJ:=.ofNat 28
noncomputable def aJ.HM:aJ:=.ofNat 29
noncomputable def aJ.CZ:aJ:=.ofNat 30
noncomputable def aJ.HS:aJ:=.ofNat 31
noncomputable def aJ.HO:aJ:=.ofNat 32
noncomputable def aJ.pE:aJ:=.ofNat 33
noncomputable def aJ.C2:aJ:=.ofNat 34
noncomputable def aJ.oz:aJ:=.ofNat 35
noncomputable def aJ.HP:aJ:=.ofNat 36
noncomputable def aJ.HU:aJ:=.ofNat 37
noncomputable def aJ.zf:aJ:=.ofNat 38
noncomputable def aJ.HN:aJ:=.ofNat 39
noncomputable def aJ.dN:aJ:=.ofNat 40
noncomputable def aJ.zb:aJ:=.ofNat 41
noncomputable def aJ.Hv:aJ:=.ofNat 42
noncomputable def aJ.HC:aJ:=.ofNat 43
noncomputable def aJ.Hy:aJ:=.ofNat 44
noncomputable def aJ.Hz:aJ:=.ofNat 45
noncomputable def aJ.t_:aJ:=.ofNat 46
noncomputable def aJ.zc:aJ:=.ofNat 47
noncomputable def aJ.CX:aJ:=.ofNat 48
noncomputable def aJ.CU:aJ:=.ofNat 49
noncomputable def aJ.HE:aJ:=.ofNat 50
noncomputable def aJ.CW:aJ:=.ofNat 51
noncomputable def aJ.Hw:aJ:=.ofNat 52
noncomputable def aJ.za:aJ:=.ofNat 53
noncomputable def aJ.HF:aJ:=.ofNat 54
noncomputable def aJ.HB:aJ:=.ofNat 55
noncomputable def aJ.v_:aJ:=.ofNat 56
noncomputable def aJ.HD:aJ:=.ofNat 57
noncomputable def aJ.HG:aJ:=.ofNat 58
noncomputable def aJ.HH:aJ:=.ofNat 59
noncomputable def aJ.Hx:aJ:=.ofNat 60
noncomputable def aJ.HA:aJ:=.ofNat 61
noncomputable def aJ.CV:aJ:=.ofNat 62
noncomputable def aJ.PD:aJ:=.ofNat 63
noncomputable def aJ.G1:aJ:=.ofNat 64
noncomputable def aJ.N8:aJ:=.ofNat 65
noncomputable def aJ.PZ:aJ:=.ofNat 66
noncomputable def aJ.ze:aJ:=.ofNat 67
noncomputable def aJ.HJ:aJ:=.ofNat 68
noncomputable def aJ.pC:aJ:=.ofNat 69
noncomputable def aJ.wd:aJ:=.ofNat 70
noncomputable def aJ.HI:aJ:=.ofNat 71
noncomputable def aJ.OA:aJ:=.ofNat 72
noncomputable def aJ.rK:aJ:=.ofNat 73
noncomputable def aJ.Bi:aJ:=.ofNat 74
noncomputable def aJ.OD:aJ:=.ofNat 75
noncomputable def aJ.Bh:aJ:=.ofNat 76
noncomputable def aJ.vi:aJ:=.ofNat 77
noncomputable def aJ.ql:aJ:=.ofNat 78
noncomputable def aJ.OB:aJ:=.ofNat 79
noncomputable def aJ.Oz:aJ:=.ofNat 80
noncomputable def aJ.OC:aJ:=.ofNat 81
noncomputable def aJ.yj:aJ:=.ofNat 82
noncomputable def afV:List String:=["self","limit","step","activity","heap","place","var","one","other","n","spot","above","left","right","below","best","last","known","greatest","amount","by","lit","found","lits","clause","k","hook","assigns","levels","reasons","spots","phases","watches","trail","starts","head","told","clauses","steps","droppable","activities","learnt_count","some","number","can_drop","top","count","level","start","gone","conflict","watching","kept","many","late","proof","seen","unit_steps","rooted","is_ok","empty_step","failed","failed_at","conflict_limit","conflicts","decisions","pairs","first","skipped","roots","rest","done","begun","answer","assumptions","marked","literal","literals","variable","named","empty","rule","premises","note","stand","cells","script","turn","feed","lap","size","row","world","core","worlds","given","due","at","lot"]
noncomputable def nQ{b:Type}(d:b):List b->Nat->b
 |[],_=>d
 |a::_,0=>a
 |_::l,n+1=>nQ d l n
noncomputable def Nm.str(x:Nm):String:=nQ "" afV x.i.1
theorem Nm.mV{p:Nm->Bool}(h:(List.range 99).all (λn=>p (Nm.ofNat n))=true)(x:Nm):p x=true:=by
 have:=List.all_eq_true.mp h x.i.1 (List.mem_range.mpr x.i.2);rwa[show Nm.ofNat x.i.1=x from congrArg Nm.mk (Fin.ext (Nat.mod_eq_of_lt x.i.2))]at this
theorem aJ.mV{p:aJ->Bool}(h:(List.range 83).all (λn=>p (aJ.ofNat n))=true)(x:aJ):p x=true:=by
 have:=List.all_eq_true.mp h x.i.1 (List.mem_range.mpr x.i.2);rwa[show aJ.ofNat x.i.1=x from congrArg aJ.mk (Fin.ext (Nat.mod_eq_of_lt x.i.2))]at this
set_option genInjectivity true
set_option genSizeOf true
section
set_option genSizeOf false
set_option genCtorIdx false in
inductive V where
 |none|bool (b:Bool)|int (i:Int)|str (s:String)|ref (a:Nat)|aE (E:List V)|args (xs:List Int)
noncomputable def V.ctorIdx(x:V):Nat:=by cases x;exact 0;exact 1;exact 2;exact 3;exact 4;exact 5;exact 6
set_option genInjectivity false
inductive Cl where
 |heap|aO|cK
set_option genCtorIdx false in
inductive bN where
 |list (E:List V)|dB (c:Cl) (d:Nat)|cM (c:Cl) (aF:List (Nm×V))|kg (aF:List (String×V))|fN (aF:List (Int×V))|tab (o:Option Nat)|code
noncomputable def bN.ctorIdx(x:bN):Nat:=by cases x;exact 0;exact 1;exact 2;exact 3;exact 4;exact 5;exact 6
noncomputable def Cl.fields:Cl->List String
 |.heap=>["limit","step","activity","heap","place"]
 |.aO=>["hook","assigns","levels","reasons","spots","phases","watches","heap","trail","starts","head","told","clauses","steps","droppable","activities","learnt_count",
  "proof","seen","unit_steps","rooted","is_ok","empty_step","failed","failed_at","conflict_limit","conflicts","decisions"]
 |.cK=>["steps","named","empty"]
noncomputable def Cl.has(c:Cl)(n:Nm):Bool:=c.fields.contains n.str
noncomputable abbrev H:=Nat->Option bN
noncomputable def H.set(A:H)(a:Nat)(o:bN):H:=λb=>if b=a then some o else A b
noncomputable abbrev aH:=Nm->Option V
noncomputable def aH.set(l:aH)(x:Nm)(v:V):aH:=λy=>if y=x then some v else l y
noncomputable def aH.uu(l:aH)(x:Nm):aH:=λy=>if y=x then .none else l y
noncomputable def kq:List (Nm×V)->Nm->Option V
 |[],_=>.none
 |(m,v)::r,n=>if m=n then some v else kq r n
noncomputable def gD:List (Nm×V)->Nm->V->List (Nm×V)
 |[],n,v=>[(n,v)]
 |(m,w)::r,n,v=>if m=n then(m,v)::r else(m,w)::gD r n v
noncomputable def V.sP:V->V->Option Bool
 |.int a,.int b=>some (decide (a=b))
 |.bool a,.bool b=>some (decide (a=b))
 |_,_=>.none
noncomputable def V.l_:List V->List V->Option Bool
 |[],[]=>some true
 |x::xs,y::ys=>match V.sP x y with
  |some true=>V.l_ xs ys
  |r=>r
 |_,_=>some false
noncomputable def V.iB:V->Bool
 |.int _=>true|.bool _=>true|_=>false
noncomputable def V.eqv:V->V->Option Bool
 |.aE a,.aE b=>if a.all V.iB&&b.all V.iB then V.l_ a b else .none
 |.str a,.str b=>some (decide (a=b))
 |a,b=>V.sP a b
noncomputable def V.om(a:V):List V->Option Bool
 |[]=>some false
 |b::r=>match V.eqv b a,V.om a r with
  |some t,some u=>some (t||u)
  |_,_=>.none
noncomputable def n7{K:Type}[DecidableEq K]:List (K×V)->K->Option V
 |[],_=>.none
 |(k,v)::r,x=>if k=x then some v else n7 r x
noncomputable def nA{K:Type}[DecidableEq K](aF:List (K×V))(x:K)(w:V):List (K×V):=
 if aF.any (λp=>decide (p.1=x))then aF.map λp=>if p.1=x then(x,w)else p else aF++[(x,w)]
inductive tR where|add|sub|mul|fdiv|mod
inductive vT where|lt|le|gt|ge
inductive U1 where|len|abs|tuple|list|int
inductive U2 where|max|min
set_option genCtorIdx false in
inductive k_ where|fn(f:aJ)|bm(f:aJ)|mn
noncomputable def k_.ctorIdx(x:k_):Nat:=by cases x;exact 0;exact 1;exact 2
noncomputable def k_.Fd:k_->Bool|.bm _=>true|_=>false
inductive sj where|eV|seq
set_option genCtorIdx false in
inductive a7 where
 |none|bool (b:Bool)|int (i:Int)|str (s:String)
 |dO (n:String) (i:Int)|vB
 |var (x:Nm)
 |aC (e:a7) (n:Nm)
 |aE (es:List a7)|dj (es:List a7)
 |q9 (ks:List String) (es:List a7)
 |cJ (op:tR) (a b:a7)
 |lA (a b:a7)|qJ (a b:a7)
 |neg (a:a7)|not (a:a7)
 |and (es:List a7)|or (es:List a7)
 |dw (op:vT) (a b:a7)
 |qU (a b c:a7)
 |eq (ne:Bool) (a b:a7)
 |jf (ne:Bool) (a:a7)
 |p9 (ne:Bool) (a b:a7)
 |hV (ne:Bool) (a:a7)
 |rH (ne:Bool) (a:a7) (b:Bool)
 |jh (ne:Bool) (a b:a7)
 |ite (c a b:a7)
 |aQ (a i:a7)|rn (a k:a7)
 |nS (a h:a7)|from(a l:a7)
 |b1 (f:U1) (a:a7)|b2 (f:U2) (a b:a7)
 |rM (es:List a7)
 |sorted (a:a7) (k:k_) (bW:Bool)
 |c8 (o a:a7)|ext (o a:a7)|qz (o:a7)|vG (o:a7) (k:k_) (bW:Bool)
 |call (f:aJ) (es:List a7)
 |aZ (o:a7) (c:Cl) (f:aJ) (es:List a7)
 |new (c:Cl) (f:aJ) (es:List a7)
 |vL (es:List a7)
 |comp (cN:a7) (aE:Bool) (xs:List Nm) (k:sj) (it:List a7) (jG:List a7)
 |sI (cN:a7) (x:Nm) (a:a7) (y:Nm) (b:a7)
noncomputable def a7.ctorIdx(x:a7):Nat:=by cases x;exact 0;exact 1;exact 2;exact 3;exact 4;exact 5;exact 6;exact 7;exact 8;exact 9;exact 10;exact 11;exact 12;exact 13;exact 14;exact 15;exact 16;exact 17;exact 18;exact 19;exact 20;exact 21;exact 22;exact 23;exact 24;exact 25;exact 26;exact 27;exact 28;exact 29;exact 30;exact 31;exact 32;exact 33;exact 34;exact 35;exact 36;exact 37;exact 38;exact 39;exact 40;exact 41;exact 42;exact 43;exact 44
set_option genCtorIdx false in
inductive St where
 |expr (e:a7)|bP (x:Nm) (e:a7)|jE (xs:List Nm) (e:a7)
 |cV (o:a7) (n:Nm) (e:a7)|fK (o i e:a7)|qE (o k e:a7)
 |rX (o i j a b:a7)|tK (o:a7) (n m:Nm) (a b:a7)
 |ite (c:a7) (t e:List St)|kY (c:a7) (b:List St)
 |for (aE:Bool) (xs:List Nm) (k:sj) (it:List a7) (b:List St)
 |ret (e:a7)|brk|cont|n8|vs
noncomputable def St.ctorIdx(x:St):Nat:=by cases x;exact 0;exact 1;exact 2;exact 3;exact 4;exact 5;exact 6;exact 7;exact 8;exact 9;exact 10;exact 11;exact 12;exact 13;exact 14;exact 15
set_option genCtorIdx false in
inductive Fl where
 |next|brk|cont|ret (v:V)
noncomputable def Fl.ctorIdx(x:Fl):Nat:=by cases x;exact 0;exact 1;exact 2;exact 3
noncomputable def Fl.val:Fl->V
 |.ret v=>v
 |_=>.none
noncomputable abbrev Cx:=aJ->List V->H->(V->H->Prop)->Prop
noncomputable def bf:Nat:=16000000
noncomputable def small:Int:=4611686018427387904
noncomputable def xh(A:H):V->Nm->Option V
 |.ref a,n=>match A a with
  |some (.dB c d)=>match A d with
   |some (.cM _ aF)=>if c.has n then kq aF n else .none
   |_=>.none
  |_=>.none
 |_,_=>.none
noncomputable def qV:tR->Int->Int->Int
 |.add,a,b=>a+b|.sub,a,b=>a-b|.mul,a,b=>a*b|.fdiv,a,b=>a.fdiv b|.mod,a,b=>a.fmod b
noncomputable def qS:tR->Int->Int->Prop
 |.add,_,_=>True|.sub,_,_=>True
 |.mul,a,b=>(-small<=a/\a<=small)\/(-small<=b/\b<=small)
 |.fdiv,_,b=>b≠0/\-small<=b/\b<=small|.mod,_,b=>b≠0
noncomputable def IX:vT->Int->Int->Bool
 |.lt,a,b=>decide (a<b)|.le,a,b=>decide (a<=b)|.gt,a,b=>decide (b<a)|.ge,a,b=>decide (b<=a)
noncomputable def mZ(n:Nat)(i:Int):Option Nat:=
 if 0<=i then(if i<n then some i.toNat else .none)else(if 0<=i+n then some (i+n).toNat else .none)
noncomputable def NY(A:H):V->Int->(V->Prop)->Prop
 |.aE E,i,Q=>∃k v,mZ E.length i=some k/\E[k]? =some v/\Q v
 |.ref a,i,Q=>∃E k v,A a=some (.list E)/\E.length<=bf/\mZ E.length i=some k/\E[k]? =some v/\Q v
 |_,_,_=>False
noncomputable def NZ(A:H)(x:V):V->(Bool->Prop)->Prop
 |.aE E,Q=>∃b,V.om x E=some b/\Q b
 |.ref a,Q=>(∃E b,A a=some (.list E)/\E.length<=bf/\V.om x E=some b/\Q b)\/(∃aF i,A a=some (.fN aF)/\x=.int i/\Q (n7 aF i).isSome)
 |_,_=>False
noncomputable def gE(a b:Int):List V:=(List.range (b-a).toNat).map λ(i:Nat)=>V.int (a+i)
noncomputable def rV(a b:Int):List V:=(List.range (a-b).toNat).map λ(i:Nat)=>V.int (a-i)
noncomputable def H5(A:H):V->List V->Prop
 |.ref p,E=>A p=some (.list E)
 |.args xs,E=>E=xs.map .int
 |_,_=>False
def fits(a:Int):Prop:=-1000000000<=a/\a<=1000000000
noncomputable def oo:sj->List V->H->(List V->(H->Prop)->Prop)->Prop
 |.seq,[.aE E],_,R=>R E λY=>True
 |.seq,[.ref a],A,R=>∃E,A a=some (.list E)/\E.length<=bf/\R E λd=>d a=some (.list E)
 |.eV,[.int n],_,R=>fits n/\R (gE 0 n) λY=>True
 |.eV,[.int a,.int b],_,R=>fits a/\fits b/\R (gE a b) λY=>True
 |.eV,[.int a,.int b,.int c],_,R=>c= -1/\fits a/\fits b/\R (rV a b) λY=>True
 |_,_,_,_=>False
noncomputable def ik:List Nm->List V->aH->Option aH
 |[],[],l=>some l
 |x::xs,v::E,l=>ik xs E (l.set x v)
 |_,_,_=>.none
def fA(aE:Bool)(xs:List Nm)(v:V)(l:aH)(R:aH->Prop):Prop:=
 if aE then∃E a,v=.aE E/\ik xs E l=some a/\R a
 else∃a,ik xs [v] l=some a/\R a
noncomputable def oD(cond:V->H->(Bool->H->Prop)->Prop)(cN:V->H->(V->H->Prop)->Prop)(c:H->Prop):List V->List V->H->(List V->H->Prop)->Prop
 |[],a,A,Q=>c A/\a.length<=bf/\Q a A
 |v::E,a,A,Q=>c A/\cond v A λb A=>(b=true->cN v A λw A=>oD cond cN c E (a++[w]) A Q)/\(b=false->oD cond cN c E a A Q)
def jg(A:H)(E:List V)(Q:V->H->Prop):Prop:=∀a,A a=.none->Q (.ref a) (A.set a (.list E))
noncomputable def V.num:V->Int
 |.int i=>i|.bool b=>if b then 1 else 0|_=>0
noncomputable def V.kind:V->Nat
 |.int _=>1|.aE [.int _,.int _]=>2|.aE [.int _,.bool _]=>3|_=>0
noncomputable def V.rI:V->V->Prop
 |.int a,.int b=>a<=b
 |.aE [a,b],.aE [c,d]=>a.num<c.num\/(a.num=c.num/\b.num<=d.num)
 |_,_=>False
def vH(bW:Bool)(a E gw:List V):Prop:=
 ∃ps:List (V×V),ps.Perm (a.zip E)/\gw=ps.map Prod.snd/\ps.Pairwise λp q=>if bW then V.rI q.1 p.1 else V.rI p.1 q.1
noncomputable def mX(C:Cx)(X:Option V):k_->List V->List V->H->Prop
 |_,[],[],_=>True
 |.fn f,v::E,k::a,A=>C f [v] A (λr b=>r=k/\b=A)/\mX C X (.fn f) E a A
 |.bm f,v::E,k::a,A=>(∃s,X=some s/\C f [s,v] A λr b=>r=k/\b=A)/\mX C X (.bm f) E a A
 |.mn,v::E,k::a,A=>(∃i,v=.int i/\k=.int (i.natAbs:Int))/\mX C X .mn E a A
 |_,_,_,_=>False
def yE(C:Cx)(X:Option V)(k:k_)(bW:Bool)(E:List V)(A:H)(R:List V->Prop):Prop:=
 E.length<64/\∃a,mX C X k E a A/\(∃n,n≠0/\∀x∈a,V.kind x=n)/\∀gw,vH bW a E gw->R gw
noncomputable def ve(A:H):V->(List V->Prop)->Prop
 |.aE E,R=>E.length<=bf/\R E
 |.ref a,R=>(∃E,A a=some (.list E)/\E.length<=bf/\R E)\/(∃aF,A a=some (.fN aF)/\aF.length<=1000/\R (aF.map λp=>.int p.1))
 |_,_=>False
noncomputable def tJ(A:H):V->(List V->Prop)->Prop
 |.aE E,R=>R E
 |.ref a,R=>∃E,A a=some (.list E)/\E.length<=bf/\R E
 |_,_=>False
noncomputable def vN(A:H):U1->V->(V->H->Prop)->Prop
 |.len,.aE E,Q=>Q (.int E.length) A
 |.len,.ref a,Q=>∃E,A a=some (.list E)/\E.length<=bf/\Q (.int E.length) A
 |.abs,.int i,Q=>Q (.int (i.natAbs:Int)) A
 |.int,.int i,Q=>Q (.int i) A
 |.tuple,v,Q=>tJ A v λE=>Q (.aE E) A
 |.list,v,Q=>tJ A v λE=>jg A E Q
 |_,_,_=>False
noncomputable def gG:Nat:=695
noncomputable def oR:Nat:=699
noncomputable def tm(X:Option V):k_->H->(H->Prop)->Prop
 |.mn,A,R=>(∃c,A gG=some (.tab (some c))/\A c=some .code/\R A)\/(A gG=some (.tab .none)/\∀c,A c=.none->R ((A.set c .code).set gG (.tab (some c))))
 |.bm _,A,R=>(∃p d aF,X=some (.ref p)/\A p=some (.dB .aO d)/\A d=some (.cM .aO aF))/\R A
 |.fn _,A,R=>R A
noncomputable def H.jQ(A:H)(p:Nat):H:=λb=>if b=p then .none else A b
noncomputable def gk:Int:=1000000000000
noncomputable def vO:U2->Int->Int->Int
 |.max,i,j=>max i j|.min,i,j=>min i j
variable(C:Cx)
mutual
noncomputable def aB:a7->aH->H->(V->H->Prop)->Prop
 |.none,_,A,Q=>Q .none A
 |.bool b,_,A,Q=>Q (.bool b) A
 |.int i,_,A,Q=>Q (.int i) A
 |.str s,_,A,Q=>Q (.str s) A
 |.dO _ i,_,A,Q=>Q (.int i) A
 |.vB,_,A,Q=>Q (.aE [.str "input",.str "define",.str "ite_term",.str "three",.str "bits",.str "congruence",.str "farkas",.str "branch",.str "divide",.str "cut",.str "resolve"]) A
 |.var x,l,A,Q=>∃v,l x=some v/\Q v A
 |.aC e n,l,A,Q=>aB e l A λv A=>∃w,xh A v n=some w/\Q w A
 |.aE es,l,A,Q=>Es es l A λE A=>Q (.aE E) A
 |.dj es,l,A,Q=>Es es l A λE A=>jg A E Q
 |.q9 G es,l,A,Q=>Es es l A λE A=>∀a,A a=.none->Q (.ref a) (A.set a (if G.isEmpty then .fN []else .kg (G.zip E)))
 |.cJ op a b,l,A,Q=>aB a l A λv A=>aB b l A λw A=>∃i j,v=.int i/\w=.int j/\qS op i j/\Q (.int (qV op i j)) A
 |.lA a b,l,A,Q=>aB a l A λv A=>aB b l A λw A=>∃p q E ws,v=.ref p/\w=.ref q/\A p=some (.list E)/\A q=some (.list ws)/\E.length+ws.length<=bf/\jg A (E++ws) Q
 |.qJ a b,l,A,Q=>aB a l A λv A=>aB b l A λw A=>∃E ws,v=.aE E/\w=.aE ws/\E.length+ws.length<=bf/\Q (.aE (E++ws)) A
 |.neg a,l,A,Q=>aB a l A λv A=>∃i,v=.int i/\Q (.int (-i)) A
 |.not a,l,A,Q=>aB a l A λv A=>∃b,v=.bool b/\Q (.bool !b) A
 |.and es,l,A,Q=>mK es l A λb A=>Q (.bool b) A
 |.or es,l,A,Q=>CK es l A λb A=>Q (.bool b) A
 |.dw op a b,l,A,Q=>aB a l A λv A=>aB b l A λw A=>∃i j,v=.int i/\w=.int j/\Q (.bool (IX op i j)) A
 |.qU a b c,l,A,Q=>aB a l A λu A=>aB b l A λv A=>∃i j,u=.int i/\v=.int j/\(¬i<=j->Q (.bool false) A)/\(i<=j->aB c l A λw A=>∃k,w=.int k/\Q (.bool (decide (j<k))) A)
 |.eq ne a b,l,A,Q=>aB a l A λv A=>aB b l A λw A=>∃r,V.eqv v w=some r/\Q (.bool (r !=ne)) A
 |.jf ne a,l,A,Q=>aB a l A λv A=>∃p E,v=.ref p/\A p=some (.list E)/\E.length<=bf/\Q (.bool (E.isEmpty !=ne)) A
 |.p9 ne a b,l,A,Q=>aB a l A λv A=>aB b l A λw A=>∃p q E ws r,v=.ref p/\w=.ref q/\A p=some (.list E)/\A q=some (.list ws)/\E.length<=1000/\ws.length<=1000/\(∀x∈E,∃i,x=V.int i)/\(∀x∈ws,∃i,x=V.int i)/\V.l_ E ws=some r/\Q (.bool (r !=ne)) A
 |.hV ne a,l,A,Q=>aB a l A λv A=>(v=.none->Q (.bool !ne) A)/\(v≠.none->Q (.bool ne) A)
 |.rH ne a b,l,A,Q=>aB a l A λv A=>∃c,v=.bool c/\Q (.bool ((decide (c=b)) !=ne)) A
 |.jh ne a b,l,A,Q=>aB a l A λv A=>aB b l A λw A=>NZ A v w λr=>Q (.bool (r !=ne)) A
 |.ite c a b,l,A,Q=>aB c l A λv A=>∃r,v=.bool r/\(r=true->aB a l A Q)/\(r=false->aB b l A Q)
 |.aQ a i,l,A,Q=>aB a l A λv A=>aB i l A λw A=>∃j,w=.int j/\NY A v j λx=>Q x A
 |.rn a k,l,A,Q=>aB a l A λv A=>aB k l A λw A=>∃p aF s x,v=.ref p/\w=.str s/\A p=some (.kg aF)/\n7 aF s=some x/\Q x A
 |.nS a h,l,A,Q=>aB a l A λv A=>aB h l A λw A=>∃E j,H5 A v E/\E.length<=bf/\w=.int j/\0<=j/\fits j/\jg A (E.take j.toNat) Q
 |.from a h,l,A,Q=>aB a l A λv A=>aB h l A λw A=>∃p E j,v=.ref p/\A p=some (.list E)/\E.length<=bf/\w=.int j/\0<=j/\fits j/\jg A (E.drop j.toNat) Q
 |.b1 f a,l,A,Q=>aB a l A λv A=>vN A f v Q
 |.b2 f a b,l,A,Q=>aB a l A λv A=>aB b l A λw A=>∃i j,v=.int i/\w=.int j/\Q (.int (vO f i j)) A
 |.rM es,l,A,Q=>Es es l A λE A=>oo .eV E A λws Y=>ws.length<=bf/\jg A ws Q
 |.sorted a k bW,l,A,Q=>aB a l A λv A=>ve A v λE=>tm (l .X) k A λA=>yE C (l .X) k bW E A λgw=>jg A gw Q
 |.c8 o a,l,A,Q=>aB o l A λv A=>(∃p,v=.ref p/\∃E,A p=some (.list E))/\aB a l A λw A=>∃p E,v=.ref p/\A p=some (.list E)/\E.length<bf/\Q .none (A.set p (.list (E++[w])))
 |.ext o a,l,A,Q=>aB o l A λv A=>(∃p,v=.ref p/\∃E,A p=some (.list E))/\aB a l A λw A=>∃p q E ws,v=.ref p/\w=.ref q/\p≠q/\A p=some (.list E)/\A q=some (.list ws)/\E.length+ws.length<=bf/\Q .none (A.set p (.list (E++ws)))
 |.qz o,l,A,Q=>aB o l A λv A=>(∃p,v=.ref p/\∃E,A p=some (.list E))/\∃p E w,v=.ref p/\A p=some (.list (E++[w]))/\E.length<bf/\Q w (A.set p (.list E))
 |.vG o k bW,l,A,Q=>aB o l A λv A=>(∃p,v=.ref p/\∃E,A p=some (.list E))/\∃p E,v=.ref p/\A p=some (.list E)/\k.Fd=true/\tm (l .X) k A λA=>yE C (l .X) k bW E (A.jQ p) λgw=>Q .none (A.set p (.list gw))
 |.call f es,l,A,Q=>Es es l A λE A=>C f E A Q
 |.aZ o c f es,l,A,Q=>aB o l A λv A=>(∃p d aF,v=.ref p/\A p=some (.dB c d)/\A d=some (.cM c aF))/\Es es l A λE A=>C f (v::E) A Q
 |.new c f es,l,A,Q=>Es es l A λE A=>∀d p,A d=.none->A p=.none->d≠p->C f (.ref p::(match c with|.heap=>[.int gk]|_=>E)) ((A.set d (.cM c [])).set p (.dB c d)) λr A=>r=.none/\Q (.ref p) A
 |.vL es,l,A,Q=>∃p d aF,l .X=some (.ref p)/\A p=some (.dB .aO d)/\A d=some (.cM .aO aF)/\Es es l A λE A=>C .jZ (.ref p::E) A Q
 |.comp cN aE xs k it I,l,A,Q=>Es it l A λE A=>oo k E A λws g=>ws.length<=bf/\
  oD (λv A R=>fA aE xs v l λm=>mK I m A R) (λv A R=>fA aE xs v l λm=>aB cN m A R) g ws [] A λJ A=>jg A J Q
 |.sI cN x a y b,l,A,Q=>aB a l A λv A=>oo .seq [v] A λws g=>
  ws.length<=1000/\∃us,(∀u∈ws,aB b ((l.set x u).uu y) A λw t=>t=A/\w=.aE us)/\us.length<=1000/\g A/\
  ∃f:V->V->V,(∀u∈ws,∀z∈us,aB cN ((l.set x u).set y z) A λw t=>t=A/\w=f u z)/\jg A (ws.flatMap λu=>us.map (f u)) Q
noncomputable def Es:List a7->aH->H->(List V->H->Prop)->Prop
 |[],_,A,Q=>Q [] A
 |e::es,l,A,Q=>aB e l A λv A=>Es es l A λE A=>Q (v::E) A
noncomputable def mK:List a7->aH->H->(Bool->H->Prop)->Prop
 |[],_,A,Q=>Q true A
 |e::es,l,A,Q=>aB e l A λv A=>∃b,v=.bool b/\(b=true->mK es l A Q)/\(b=false->Q false A)
noncomputable def CK:List a7->aH->H->(Bool->H->Prop)->Prop
 |[],_,A,Q=>Q false A
 |e::es,l,A,Q=>aB e l A λv A=>∃b,v=.bool b/\(b=true->Q true A)/\(b=false->CK es l A Q)
end
noncomputable def oK(body:V->aH->H->(Fl->aH->H->Prop)->Prop)(a:H->Prop):List V->aH->H->(Fl->aH->H->Prop)->Prop
 |[],l,A,Q=>a A/\Q .next l A
 |v::E,l,A,Q=>a A/\body v l A λfl l A=>match fl with
  |.next=>oK body a E l A Q
  |.cont=>oK body a E l A Q
  |.brk=>Q .next l A
  |.ret w=>Q (.ret w) l A
def ajA(cond:aH->H->(Bool->H->Prop)->Prop)(body:aH->H->(Fl->aH->H->Prop)->Prop)(l:aH)(A:H)(Q:Fl->aH->H->Prop):Prop:=
 ∀R:aH->H->Prop,(∀l A,(cond l A λb A=>(b=true->body l A λfl l A=>match fl with
  |.next=>R l A
  |.cont=>R l A
  |.brk=>Q .next l A
  |.ret w=>Q (.ret w) l A)/\(b=false->Q .next l A))->R l A)->R l A
mutual
noncomputable def S:St->aH->H->(Fl->aH->H->Prop)->Prop
 |.expr e,l,A,Q=>aB C e l A λY A=>Q .next l A
 |.bP x e,l,A,Q=>aB C e l A λv A=>Q .next (l.set x v) A
 |.jE xs e,l,A,Q=>aB C e l A λv A=>∃E g,v=.aE E/\ik xs E l=some g/\Q .next g A
 |.cV o n e,l,A,Q=>aB C e l A λv A=>aB C o l A λw A=>∃p c d aF,w=.ref p/\A p=some (.dB c d)/\A d=some (.cM c aF)/\aF.length<=900/\c.has n=true/\Q .next l (A.set d (.cM c (gD aF n v)))
 |.fK o i e,l,A,Q=>aB C e l A λv A=>aB C o l A λw A=>aB C i l A λu A=>∃p E j k,w=.ref p/\u=.int j/\A p=some (.list E)/\E.length<=bf/\mZ E.length j=some k/\Q .next l (A.set p (.list (E.set k v)))
 |.qE o i e,l,A,Q=>aB C e l A λv A=>aB C o l A λw A=>aB C i l A λu A=>∃p,w=.ref p/\((∃j aF,u=.int j/\A p=some (.fN aF)/\aF.length<=900/\Q .next l (A.set p (.fN (nA aF j v))))\/(∃t aF,u=.str t/\A p=some (.kg aF)/\aF.length<=900/\Q .next l (A.set p (.kg (nA aF t v)))))
 |.rX o i j a b,l,A,Q=>aB C a l A λv A=>aB C b l A λw A=>
  aB C o l A λf A=>aB C i l A λq A=>∃p E x k,f=.ref p/\q=.int x/\A p=some (.list E)/\E.length<=bf/\mZ E.length x=some k/\
  aB C o l (A.set p (.list (E.set k v))) λf A=>aB C j l A λh A=>∃p E x k,f=.ref p/\h=.int x/\A p=some (.list E)/\E.length<=bf/\mZ E.length x=some k/\
  Q .next l (A.set p (.list (E.set k w)))
 |.tK o n m a b,l,A,Q=>aB C a l A λv A=>aB C b l A λw A=>
  aB C o l A λf A=>∃p c d aF,f=.ref p/\A p=some (.dB c d)/\A d=some (.cM c aF)/\aF.length<=900/\c.has n=true/\
  aB C o l (A.set d (.cM c (gD aF n v))) λf A=>∃p c d aF,f=.ref p/\A p=some (.dB c d)/\A d=some (.cM c aF)/\aF.length<=900/\c.has m=true/\
  Q .next l (A.set d (.cM c (gD aF m w)))
 |.ite c t e,l,A,Q=>aB C c l A λv A=>∃b,v=.bool b/\(b=true->Ss t l A Q)/\(b=false->Ss e l A Q)
 |.kY c b,l,A,Q=>ajA (λl A R=>aB C c l A λv A=>∃b,v=.bool b/\R b A) (λl A R=>Ss b l A R) l A Q
 |.for aE xs k it b,l,A,Q=>Es C it l A λE A=>oo k E A λws r=>
  oK (λv l A R=>fA aE xs v l λg=>Ss b g A R) r ws l A Q
 |.ret e,l,A,Q=>aB C e l A λv A=>Q (.ret v) l A
 |.brk,l,A,Q=>Q .brk l A
 |.cont,l,A,Q=>Q .cont l A
 |.n8,_,_,_=>False
 |.vs,l,A,Q=>Q .next l A
noncomputable def Ss:List St->aH->H->(Fl->aH->H->Prop)->Prop
 |[],l,A,Q=>Q .next l A
 |s::r,l,A,Q=>S s l A λfl l A=>match fl with
  |.next=>Ss r l A Q
  |fl=>Q fl l A
end
end
set_option genInjectivity false
set_option genSizeOf false
noncomputable def Si:List St:=[.cV (.var .X) .oS (.var .oS),.cV (.var .X) .step (.dO "FIRST_STEP" 1024),.cV (.var .X) .lq (.dj [.int 0]),.cV (.var .X) .heap (.dj []),.cV (.var .X) .jk (.dj [.neg (.int 1)])]
noncomputable def Sm:List St:=[.ret (.cJ .sub (.b1 .len (.aC (.var .X) .lq)) (.int 1))]
noncomputable def Sl:List St:=[.ret (.dw .ge (.aQ (.aC (.var .X) .jk) (.var .var)) (.int 0))]
noncomputable def Sj:List St:=[.ite (.eq true (.aQ (.aC (.var .X) .lq) (.var .cC)) (.aQ (.aC (.var .X) .lq) (.var .gu))) [.ret (.dw .gt (.aQ (.aC (.var .X) .lq) (.var .cC)) (.aQ (.aC (.var .X) .lq) (.var .gu)))] [],.ret (.dw .lt (.var .cC) (.var .gu))]
noncomputable def Sh:List St:=[.kY (.dw .lt (.aZ (.var .X) .heap .vW []) (.var .n)) [.expr (.c8 (.aC (.var .X) .lq) (.int 0)),.expr (.c8 (.aC (.var .X) .jk) (.neg (.int 1))),.expr (.aZ (.var .X) .heap .CA [.aZ (.var .X) .heap .vW []])]]
noncomputable def Sv:List St:=[.fK (.aC (.var .X) .heap) (.var .cT) (.var .var),.fK (.aC (.var .X) .jk) (.var .var) (.var .cT)]
noncomputable def Sz:List St:=[.bP .var (.aQ (.aC (.var .X) .heap) (.var .cT)),.kY (.dw .gt (.var .cT) (.int 0)) [.bP .above (.cJ .fdiv (.cJ .sub (.var .cT) (.int 1)) (.int 2)),.ite (.not (.aZ (.var .X) .heap .vV [.var .var,.aQ (.aC (.var .X) .heap) (.var .above)])) [.brk] [],.expr (.aZ (.var .X) .heap .qP [.var .cT,.aQ (.aC (.var .X) .heap) (.var .above)]),.bP .cT (.var .above)],.expr (.aZ (.var .X) .heap .qP [.var .cT,.var .var])]
noncomputable def Sa:List St:=[.bP .left (.cJ .add (.cJ .mul (.int 2) (.var .cT)) (.int 1)),.ite (.dw .ge (.var .left) (.b1 .len (.aC (.var .X) .heap))) [.ret (.neg (.int 1))] [],.bP .right (.cJ .add (.var .left) (.int 1)),.ite (.and [.dw .lt (.var .right) (.b1 .len (.aC (.var .X) .heap)),.aZ (.var .X) .heap .vV [.aQ (.aC (.var .X) .heap) (.var .right),.aQ (.aC (.var .X) .heap) (.var .left)]]) [.ret (.var .right)] [],.ret (.var .left)]
noncomputable def SD:List St:=[.bP .var (.aQ (.aC (.var .X) .heap) (.var .cT)),.bP .below (.aZ (.var .X) .heap .Cw [.var .cT]),.kY (.and [.dw .ge (.var .below) (.int 0),.aZ (.var .X) .heap .vV [.aQ (.aC (.var .X) .heap) (.var .below),.var .var]]) [.expr (.aZ (.var .X) .heap .qP [.var .cT,.aQ (.aC (.var .X) .heap) (.var .below)]),.bP .cT (.var .below),.bP .below (.aZ (.var .X) .heap .Cw [.var .cT])],.expr (.aZ (.var .X) .heap .qP [.var .cT,.var .var])]
noncomputable def Su:List St:=[.ite (.aZ (.var .X) .heap .Cz [.var .var]) [.ret .none] [],.expr (.c8 (.aC (.var .X) .heap) (.var .var)),.fK (.aC (.var .X) .jk) (.var .var) (.cJ .sub (.b1 .len (.aC (.var .X) .heap)) (.int 1)),.expr (.aZ (.var .X) .heap .CD [.cJ .sub (.b1 .len (.aC (.var .X) .heap)) (.int 1)])]
noncomputable def Sp:List St:=[.ite (.eq false (.b1 .len (.aC (.var .X) .heap)) (.int 0)) [.ret (.int 0)] [],.bP .Dl (.aQ (.aC (.var .X) .heap) (.int 0)),.bP .Ox (.qz (.aC (.var .X) .heap)),.fK (.aC (.var .X) .jk) (.var .Dl) (.neg (.int 1)),.ite (.dw .gt (.b1 .len (.aC (.var .X) .heap)) (.int 0)) [.expr (.aZ (.var .X) .heap .qP [.int 0,.var .Ox]),.expr (.aZ (.var .X) .heap .CE [.int 0])] [],.ret (.var .Dl)]
noncomputable def Sr:List St:=[.bP .var (.aZ (.var .X) .heap .yU []),.kY (.and [.dw .gt (.var .var) (.int 0),.eq true (.aQ (.var .yh) (.var .var)) (.int 0)]) [.bP .var (.aZ (.var .X) .heap .yU [])],.ret (.var .var)]
noncomputable def Se:List St:=[.fK (.aC (.var .X) .lq) (.var .var) (.cJ .add (.aQ (.aC (.var .X) .lq) (.var .var)) (.aC (.var .X) .step)),.ite (.dw .gt (.aQ (.aC (.var .X) .lq) (.var .var)) (.aC (.var .X) .oS)) [.expr (.aZ (.var .X) .heap .CC [])] [.ite (.aZ (.var .X) .heap .Cz [.var .var]) [.expr (.aZ (.var .X) .heap .CD [.aQ (.aC (.var .X) .jk) (.var .var)])] []]]
noncomputable def Sg:List St:=[.cV (.var .X) .step (.cJ .add (.cJ .add (.aC (.var .X) .step) (.cJ .fdiv (.aC (.var .X) .step) (.cJ .sub (.dO "SHRINK" 20) (.int 1)))) (.int 1)),.ite (.dw .gt (.aC (.var .X) .step) (.aC (.var .X) .oS)) [.expr (.aZ (.var .X) .heap .CC [])] []]
noncomputable def Sy:List St:=[.bP .xj (.aC (.var .X) .step),.for false [.wi] .seq [.aC (.var .X) .lq] [.ite (.dw .gt (.var .wi) (.var .xj)) [.bP .xj (.var .wi)] []],.bP .Cq (.cJ .add (.cJ .fdiv (.var .xj) (.dO "FIRST_STEP" 1024)) (.int 1)),.cV (.var .X) .lq (.comp (.cJ .fdiv (.var .wi) (.var .Cq)) false [.wi] .seq [.aC (.var .X) .lq] []),.cV (.var .X) .step (.cJ .fdiv (.aC (.var .X) .step) (.var .Cq)),.ite (.eq false (.aC (.var .X) .step) (.int 0)) [.cV (.var .X) .step (.int 1)] [],.expr (.aZ (.var .X) .heap .CB [])]
noncomputable def Sw:List St:=[.bP .cT (.cJ .sub (.cJ .fdiv (.b1 .len (.aC (.var .X) .heap)) (.int 2)) (.int 1)),.kY (.dw .ge (.var .cT) (.int 0)) [.expr (.aZ (.var .X) .heap .CE [.var .cT]),.bP .cT (.cJ .sub (.var .cT) (.int 1))]]
noncomputable def TY:List St:=[.ret (.ite (.dw .gt (.var .lit) (.int 0)) (.cJ .mul (.int 2) (.var .lit)) (.cJ .sub (.int 1) (.cJ .mul (.int 2) (.var .lit))))]
noncomputable def TV:List St:=[.ret (.aE [.b1 .abs (.var .lit),.var .lit])]
noncomputable def TG:List St:=[.bP .ft (.dj []),.for false [.lit] .seq [.sorted (.var .bR) (.fn .BK) false] [.ite (.or [.jf false (.var .ft),.eq true (.aQ (.var .ft) (.neg (.int 1))) (.var .lit)]) [.expr (.c8 (.var .ft) (.var .lit))] []],.ret (.b1 .tuple (.var .ft))]
noncomputable def TH:List St:=[.for false [.k] .eV [.int 1,.b1 .len (.var .eJ)] [.ite (.eq false (.aQ (.var .eJ) (.var .k)) (.neg (.aQ (.var .eJ) (.cJ .sub (.var .k) (.int 1))))) [.ret (.bool true)] []],.ret (.bool false)]
noncomputable def Tp:List St:=[.cV (.var .X) .jy (.var .jy),.cV (.var .X) .nj (.dj [.dO "UNKNOWN" 0]),.cV (.var .X) .iR (.dj [.int 0]),.cV (.var .X) .kx (.dj [.dO "NO_CLAUSE" (-1)]),.cV (.var .X) .pX (.dj [.int 0]),.cV (.var .X) .rS (.dj [.dO "FALSE" (-1)]),.cV (.var .X) .lN (.dj [.dj [],.dj []]),.cV (.var .X) .heap (.new .heap .m9 []),.cV (.var .X) .iU (.dj []),.cV (.var .X) .qI (.dj []),.cV (.var .X) .head (.int 0),.cV (.var .X) .iq (.int 0),.cV (.var .X) .fS (.dj []),.cV (.var .X) .cK (.dj []),.cV (.var .X) .uv (.dj []),.cV (.var .X) .zh (.dj []),.cV (.var .X) .vj (.int 0)]
noncomputable def Tn:List St:=[.bP .var (.b1 .len (.aC (.var .X) .nj)),.expr (.c8 (.aC (.var .X) .nj) (.dO "UNKNOWN" 0)),.expr (.c8 (.aC (.var .X) .iR) (.int 0)),.expr (.c8 (.aC (.var .X) .kx) (.dO "NO_CLAUSE" (-1))),.expr (.c8 (.aC (.var .X) .pX) (.int 0)),.expr (.c8 (.aC (.var .X) .rS) (.dO "FALSE" (-1))),.expr (.c8 (.aC (.var .X) .lN) (.dj [])),.expr (.c8 (.aC (.var .X) .lN) (.dj [])),.expr (.aZ (.aC (.var .X) .heap) .heap .Hk [.var .var]),.ret (.var .var)]
noncomputable def TB:List St:=[.ret (.ite (.dw .gt (.var .lit) (.int 0)) (.aQ (.aC (.var .X) .nj) (.var .lit)) (.neg (.aQ (.aC (.var .X) .nj) (.neg (.var .lit)))))]
noncomputable def Ti:List St:=[.ret (.b1 .len (.aC (.var .X) .qI))]
noncomputable def Tu:List St:=[.ret (.aQ (.aC (.var .X) .pX) (.var .var))]
noncomputable def Tf:List St:=[.ret (.sorted (.var .ox) (.bm .HR) true)]
noncomputable def Tw:List St:=[.bP .bO (.b1 .len (.aC (.var .X) .fS)),.expr (.c8 (.aC (.var .X) .fS) (.b1 .list (.var .eJ))),.expr (.c8 (.aC (.var .X) .cK) (.var .step)),.expr (.c8 (.aC (.var .X) .uv) (.var .Dz)),.expr (.c8 (.aC (.var .X) .zh) (.int 0)),.ite (.var .Dz) [.cV (.var .X) .vj (.cJ .add (.aC (.var .X) .vj) (.int 1))] [],.ret (.var .bO)]
noncomputable def TF:List St:=[.bP .bR (.aQ (.aC (.var .X) .fS) (.var .bO)),.expr (.c8 (.aQ (.aC (.var .X) .lN) (.call .ot [.aQ (.var .bR) (.int 0)])) (.var .bO)),.expr (.c8 (.aQ (.aC (.var .X) .lN) (.call .ot [.aQ (.var .bR) (.int 1)])) (.var .bO))]
noncomputable def Tz:List St:=[.for false [.lit] .seq [.nS (.aQ (.aC (.var .X) .fS) (.var .bO)) (.int 2)] [.bP .jk (.call .ot [.var .lit]),.fK (.aC (.var .X) .lN) (.var .jk) (.comp (.var .cC) false [.cC] .seq [.aQ (.aC (.var .X) .lN) (.var .jk)] [.eq true (.var .cC) (.var .bO)])]]
noncomputable def To:List St:=[.ite (.eq true (.aZ (.var .X) .aO .ic [.var .lit]) (.dO "FALSE" (-1))) [.ret (.cJ .add (.aZ (.var .X) .aO .pD []) (.int 1))] [],.ret (.aQ (.aC (.var .X) .iR) (.b1 .abs (.var .lit)))]
noncomputable def Te:List St:=[.bP .ft (.sorted (.var .bR) (.fn .BK) false),.expr (.vG (.var .ft) (.bm .HM) true),.ret (.var .ft)]
noncomputable def Tx:List St:=[.bP .dM (.int 0),.for false [.lit] .seq [.aQ (.aC (.var .X) .fS) (.var .bO)] [.bP .dM (.b2 .max (.var .dM) (.aQ (.aC (.var .X) .iR) (.b1 .abs (.var .lit))))],.ret (.var .dM)]
noncomputable def Di:List St:=[.ite (.dw .lt (.b1 .len (.aQ (.aC (.var .X) .fS) (.var .bO))) (.int 2)) [.expr (.aZ (.var .X) .aO .oz [.int 0])] [],.bP .bR (.aZ (.var .X) .aO .CZ [.aQ (.aC (.var .X) .fS) (.var .bO)]),.fK (.aC (.var .X) .fS) (.var .bO) (.var .bR),.ite (.dw .gt (.b1 .len (.var .bR)) (.int 1)) [.expr (.aZ (.var .X) .aO .C3 [.var .bO])] [],.ite (.or [.eq false (.b1 .len (.var .bR)) (.int 0),.eq false (.aZ (.var .X) .aO .ic [.aQ (.var .bR) (.int 0)]) (.dO "FALSE" (-1))]) [.ret (.var .bO)] [],.ite (.eq false (.aZ (.var .X) .aO .ic [.aQ (.var .bR) (.int 0)]) (.dO "UNKNOWN" 0)) [.ite (.eq false (.b1 .len (.var .bR)) (.int 1)) [.expr (.aZ (.var .X) .aO .pE [.aQ (.var .bR) (.int 0),.var .bO])] [.ite (.eq false (.aZ (.var .X) .aO .ic [.aQ (.var .bR) (.int 1)]) (.dO "FALSE" (-1))) [.expr (.aZ (.var .X) .aO .oz [.aQ (.aC (.var .X) .iR) (.b1 .abs (.aQ (.var .bR) (.int 1)))]),.expr (.aZ (.var .X) .aO .pE [.aQ (.var .bR) (.int 0),.var .bO])] []]] [],.ret (.dO "NO_CLAUSE" (-1))]
noncomputable def Tj:List St:=[.bP .var (.b1 .abs (.var .lit)),.fK (.aC (.var .X) .nj) (.var .var) (.ite (.dw .gt (.var .lit) (.int 0)) (.dO "TRUE" 1) (.dO "FALSE" (-1))),.fK (.aC (.var .X) .iR) (.var .var) (.aZ (.var .X) .aO .pD []),.fK (.aC (.var .X) .kx) (.var .var) (.var .bO),.fK (.aC (.var .X) .pX) (.var .var) (.b1 .len (.aC (.var .X) .iU)),.expr (.c8 (.aC (.var .X) .iU) (.var .lit))]
noncomputable def Ts:List St:=[.expr (.c8 (.aC (.var .X) .qI) (.b1 .len (.aC (.var .X) .iU))),.ite (.hV true (.aC (.var .X) .jy)) [.n8] []]
noncomputable def Th:List St:=[.bP .count (.cJ .sub (.aZ (.var .X) .aO .pD []) (.var .yk)),.ite (.dw .le (.var .count) (.int 0)) [.ret .none] [],.bP .mD (.aQ (.aC (.var .X) .qI) (.var .yk)),.for false [.cT] .eV [.cJ .sub (.b1 .len (.aC (.var .X) .iU)) (.int 1),.cJ .sub (.var .mD) (.int 1),.neg (.int 1)] [.bP .var (.b1 .abs (.aQ (.aC (.var .X) .iU) (.var .cT))),.fK (.aC (.var .X) .rS) (.var .var) (.aQ (.aC (.var .X) .nj) (.var .var)),.fK (.aC (.var .X) .nj) (.var .var) (.dO "UNKNOWN" 0),.fK (.aC (.var .X) .kx) (.var .var) (.dO "NO_CLAUSE" (-1)),.expr (.aZ (.aC (.var .X) .heap) .heap .CA [.var .var])],.cV (.var .X) .iU (.nS (.aC (.var .X) .iU) (.var .mD)),.cV (.var .X) .qI (.nS (.aC (.var .X) .qI) (.var .yk)),.cV (.var .X) .head (.b2 .min (.aC (.var .X) .head) (.var .mD)),.cV (.var .X) .iq (.b2 .min (.aC (.var .X) .iq) (.var .mD)),.ite (.hV true (.aC (.var .X) .jy)) [.n8] []]
noncomputable def Tt:List St:=[.kY (.dw .lt (.aC (.var .X) .head) (.b1 .len (.aC (.var .X) .iU))) [.bP .fZ (.neg (.aQ (.aC (.var .X) .iU) (.aC (.var .X) .head))),.cV (.var .X) .head (.cJ .add (.aC (.var .X) .head) (.int 1)),.bP .gj (.aZ (.var .X) .aO .HU [.var .fZ]),.ite (.eq true (.var .gj) (.dO "NO_CLAUSE" (-1))) [.cV (.var .X) .head (.b1 .len (.aC (.var .X) .iU)),.ret (.var .gj)] []],.ret (.dO "NO_CLAUSE" (-1))]
noncomputable def TC:List St:=[.jE [.vQ,.de,.gj] (.aE [.aQ (.aC (.var .X) .lN) (.call .ot [.var .fZ]),.dj [],.dO "NO_CLAUSE" (-1)]),.for false [.cT] .eV [.b1 .len (.var .vQ)] [.bP .bO (.aQ (.var .vQ) (.var .cT)),.bP .bR (.aQ (.aC (.var .X) .fS) (.var .bO)),.ite (.hV false (.var .bR)) [.cont] [],.ite (.eq false (.aQ (.var .bR) (.int 0)) (.var .fZ)) [.rX (.var .bR) (.int 0) (.int 1) (.aQ (.var .bR) (.int 1)) (.var .fZ)] [],.ite (.and [.eq true (.aZ (.var .X) .aO .ic [.aQ (.var .bR) (.int 0)]) (.dO "TRUE" 1),.aZ (.var .X) .aO .zf [.var .bO,.var .bR]]) [.cont] [],.expr (.c8 (.var .de) (.var .bO)),.ite (.eq false (.aZ (.var .X) .aO .ic [.aQ (.var .bR) (.int 0)]) (.dO "FALSE" (-1))) [.bP .gj (.var .bO),.expr (.ext (.var .de) (.from (.var .vQ) (.cJ .add (.var .cT) (.int 1)))),.brk] [],.ite (.eq false (.aZ (.var .X) .aO .ic [.aQ (.var .bR) (.int 0)]) (.dO "UNKNOWN" 0)) [.expr (.aZ (.var .X) .aO .pE [.aQ (.var .bR) (.int 0),.var .bO])] []],.fK (.aC (.var .X) .lN) (.call .ot [.var .fZ]) (.var .de),.ret (.var .gj)]
noncomputable def Tr:List St:=[.for false [.k] .eV [.int 2,.b1 .len (.var .bR)] [.ite (.eq true (.aZ (.var .X) .aO .ic [.aQ (.var .bR) (.var .k)]) (.dO "FALSE" (-1))) [.rX (.var .bR) (.int 1) (.var .k) (.aQ (.var .bR) (.var .k)) (.aQ (.var .bR) (.int 1)),.expr (.c8 (.aQ (.aC (.var .X) .lN) (.call .ot [.aQ (.var .bR) (.int 1)])) (.var .bO)),.ret (.bool true)] []],.ret (.bool false)]
noncomputable def Tq:List St:=[.for false [.bO] .eV [.b1 .len (.aC (.var .X) .fS)] [.bP .bR (.aQ (.aC (.var .X) .fS) (.var .bO)),.ite (.and [.hV true (.var .bR),.dw .gt (.b1 .len (.var .bR)) (.int 1)]) [.for false [.k] .eV [.b1 .len (.var .bR)] [.bP .fH (.b1 .len (.comp (.var .cC) false [.cC] .seq [.aQ (.aC (.var .X) .lN) (.call .ot [.aQ (.var .bR) (.var .k)])] [.eq false (.var .cC) (.var .bO)])),.ite (.eq true (.var .fH) (.ite (.dw .lt (.var .k) (.int 2)) (.int 1) (.int 0))) [.ret (.bool false)] []]] []],.for false [.cT] .eV [.b1 .len (.aC (.var .X) .iU)] [.bP .lit (.aQ (.aC (.var .X) .iU) (.var .cT)),.ite (.or [.eq true (.aZ (.var .X) .aO .ic [.var .lit]) (.dO "TRUE" 1),.eq true (.aQ (.aC (.var .X) .pX) (.b1 .abs (.var .lit))) (.var .cT)]) [.ret (.bool false)] [],.bP .bO (.aQ (.aC (.var .X) .kx) (.b1 .abs (.var .lit))),.ite (.eq true (.var .bO) (.dO "NO_CLAUSE" (-1))) [.for false [.d8] .seq [.aQ (.aC (.var .X) .fS) (.var .bO)] [.ite (.and [.eq true (.var .d8) (.var .lit),.or [.eq true (.aZ (.var .X) .aO .ic [.var .d8]) (.dO "FALSE" (-1)),.dw .gt (.aQ (.aC (.var .X) .pX) (.b1 .abs (.var .d8))) (.var .cT)]]) [.ret (.bool false)] []]] []],.ret (.eq false (.b1 .len (.comp (.var .cC) false [.cC] .seq [.aC (.var .X) .nj] [.eq true (.var .cC) (.dO "UNKNOWN" 0)])) (.b1 .len (.aC (.var .X) .iU)))]
noncomputable def SJ:List St:=[.expr (.vL [.var .jy]),.cV (.var .X) .dK (.var .dK),.cV (.var .X) .iF (.dj [.bool false]),.cV (.var .X) .qK (.dj [.none]),.cV (.var .X) .rW (.int 0),.cV (.var .X) .nK (.bool true),.cV (.var .X) .ux .none,.cV (.var .X) .j4 (.aE []),.cV (.var .X) .qe .none,.cV (.var .X) .wL (.int 0),.cV (.var .X) .q7 (.int 0),.cV (.var .X) .ur (.int 0)]
noncomputable def SP:List St:=[.expr (.c8 (.aC (.var .X) .iF) (.bool false)),.expr (.c8 (.aC (.var .X) .qK) .none),.ret (.aZ (.var .X) .aO .HL [])]
noncomputable def Ic:List St:=[.bP .eJ (.call .sH [.var .bR]),.expr (.aZ (.var .X) .aO .oz [.int 0]),.ite (.and [.aC (.var .X) .nK,.not (.call .Fe [.var .eJ])]) [.bP .gj (.aZ (.var .X) .aO .HO [.aZ (.var .X) .aO .zg [.var .eJ,.var .step,.bool false]]),.ite (.eq true (.var .gj) (.dO "NO_CLAUSE" (-1))) [.expr (.aZ (.var .X) .aO .CU [.var .gj])] []] [],.ret (.aC (.var .X) .nK)]
noncomputable def SM:List St:=[.bP .ft (.dj []),.for false [.bO] .eV [.b1 .len (.aC (.var .X) .fS)] [.ite (.and [.aQ (.aC (.var .X) .uv) (.var .bO),.hV true (.aQ (.aC (.var .X) .fS) (.var .bO))]) [.expr (.c8 (.var .ft) (.call .sH [.aQ (.aC (.var .X) .fS) (.var .bO)]))] []],.ret (.var .ft)]
noncomputable def SG:List St:=[.ret (.aC (.var .X) .j4)]
noncomputable def SH:List St:=[.ret (.aC (.var .X) .qe)]
noncomputable def SN:List St:=[.ite (.or [.hV false (.aC (.var .X) .dK),.jf false (.var .eH)]) [.ret (.var .first)] [],.bP .step (.aZ (.aC (.var .X) .dK) .cK .HI [.var .first,.var .eH]),.ite (.eq true (.aZ (.aC (.var .X) .dK) .cK .pC [.var .step]) (.var .eJ)) [.n8] [],.ret (.var .step)]
noncomputable def SV:List St:=[.ite (.hV false (.aC (.var .X) .dK)) [.ret (.dj [])] [],.ret (.comp (.aE [.var .var,.aZ (.var .X) .aO .CX [.var .var]]) false [.var] .seq [.aZ (.var .X) .aO .C1 [.var .ox]] [])]
noncomputable def SY:List St:=[.kY (.hV false (.aQ (.aC (.var .X) .qK) (.var .var))) [.bP .lit (.aQ (.aC (.var .X) .iU) (.aC (.var .X) .rW)),.bP .bO (.aQ (.aC (.var .X) .kx) (.b1 .abs (.var .lit))),.bP .eH (.dj []),.for false [.d8] .seq [.call .sH [.aQ (.aC (.var .X) .fS) (.var .bO)]] [.ite (.eq true (.var .d8) (.var .lit)) [.expr (.c8 (.var .eH) (.aE [.b1 .abs (.var .d8),.aQ (.aC (.var .X) .qK) (.b1 .abs (.var .d8))]))] []],.fK (.aC (.var .X) .qK) (.b1 .abs (.var .lit)) (.aZ (.var .X) .aO .t_ [.aE [.var .lit],.aQ (.aC (.var .X) .cK) (.var .bO),.var .eH]),.cV (.var .X) .rW (.cJ .add (.aC (.var .X) .rW) (.int 1))],.ret (.aQ (.aC (.var .X) .qK) (.var .var))]
noncomputable def SF:List St:=[.bP .eH (.aZ (.var .X) .aO .zc [.comp (.b1 .abs (.var .lit)) false [.lit] .seq [.aQ (.aC (.var .X) .fS) (.var .bO)] []]),.cV (.var .X) .ux (.aZ (.var .X) .aO .t_ [.aE [],.aQ (.aC (.var .X) .cK) (.var .bO),.var .eH]),.cV (.var .X) .nK (.bool false)]
noncomputable def SU:List St:=[.ret (.aZ (.var .X) .aO .HP [])]
noncomputable def SQ:List St:=[.bP .count (.int 0),.for false [.lit] .seq [.aQ (.aC (.var .X) .fS) (.var .bO)] [.bP .var (.b1 .abs (.var .lit)),.ite (.or [.eq false (.var .var) (.var .qG),.aQ (.aC (.var .X) .iF) (.var .var)]) [.cont] [],.fK (.aC (.var .X) .iF) (.var .var) (.bool true),.ite (.eq false (.aQ (.aC (.var .X) .iR) (.var .var)) (.int 0)) [.expr (.c8 (.var .bU) (.var .var)),.cont] [],.expr (.aZ (.aC (.var .X) .heap) .heap .Hj [.var .var]),.ite (.eq false (.aQ (.aC (.var .X) .iR) (.var .var)) (.aZ (.var .X) .aO .pD [])) [.bP .count (.cJ .add (.var .count) (.int 1))] [.expr (.c8 (.var .aY) (.var .lit))]],.ret (.var .count)]
noncomputable def Df:List St:=[.jE [.aY,.bU,.eH,.done] (.aE [.dj [],.dj [],.dj [],.dj []]),.expr (.aZ (.var .X) .aO .v_ [.var .gj]),.jE [.count,.cT] (.aE [.aZ (.var .X) .aO .CW [.var .gj,.int 0,.var .aY,.var .bU],.cJ .sub (.b1 .len (.aC (.var .X) .iU)) (.int 1)]),.kY (.bool true) [.kY (.not (.aQ (.aC (.var .X) .iF) (.b1 .abs (.aQ (.aC (.var .X) .iU) (.var .cT))))) [.bP .cT (.cJ .sub (.var .cT) (.int 1))],.bP .lit (.aQ (.aC (.var .X) .iU) (.var .cT)),.ite (.eq false (.var .count) (.int 1)) [.brk] [],.bP .bO (.aQ (.aC (.var .X) .kx) (.b1 .abs (.var .lit))),.expr (.c8 (.var .eH) (.aE [.b1 .abs (.var .lit),.aQ (.aC (.var .X) .cK) (.var .bO)])),.expr (.c8 (.var .done) (.b1 .abs (.var .lit))),.expr (.aZ (.var .X) .aO .v_ [.var .bO]),.bP .count (.cJ .add (.cJ .sub (.var .count) (.int 1)) (.aZ (.var .X) .aO .CW [.var .bO,.b1 .abs (.var .lit),.var .aY,.var .bU])),.bP .cT (.cJ .sub (.var .cT) (.int 1))],.for false [.var] .seq [.var .done] [.fK (.aC (.var .X) .iF) (.var .var) (.bool false)],.bP .de (.aZ (.var .X) .aO .HF [.var .aY,.var .bU,.var .eH]),.expr (.ext (.var .eH) (.aZ (.var .X) .aO .zc [.var .bU])),.for false [.var] .seq [.lA (.lA (.dj [.b1 .abs (.var .lit)]) (.comp (.b1 .abs (.var .d8)) false [.d8] .seq [.var .aY] [])) (.var .bU)] [.fK (.aC (.var .X) .iF) (.var .var) (.bool false)],.ret (.aE [.lA (.dj [.neg (.var .lit)]) (.var .de),.var .eH])]
noncomputable def SK:List St:=[.bP .bO (.aQ (.aC (.var .X) .kx) (.b1 .abs (.var .lit))),.ite (.eq false (.var .bO) (.dO "NO_CLAUSE" (-1))) [.ret (.bool false)] [],.for false [.d8] .seq [.aQ (.aC (.var .X) .fS) (.var .bO)] [.bP .var (.b1 .abs (.var .d8)),.ite (.and [.eq true (.var .var) (.b1 .abs (.var .lit)),.dw .gt (.aQ (.aC (.var .X) .iR) (.var .var)) (.int 0),.not (.aQ (.aC (.var .X) .iF) (.var .var))]) [.ret (.bool false)] []],.ret (.bool true)]
noncomputable def SW:List St:=[.bP .de (.comp (.var .lit) false [.lit] .seq [.var .aY] [.not (.aZ (.var .X) .aO .za [.var .lit])]),.bP .fZ (.comp (.b1 .abs (.var .lit)) false [.lit] .seq [.var .aY] [.aZ (.var .X) .aO .za [.var .lit]]),.for false [.var] .seq [.aZ (.var .X) .aO .C1 [.var .fZ]] [.bP .bO (.aQ (.aC (.var .X) .kx) (.var .var)),.expr (.c8 (.var .eH) (.aE [.var .var,.aQ (.aC (.var .X) .cK) (.var .bO)])),.for false [.d8] .seq [.aQ (.aC (.var .X) .fS) (.var .bO)] [.ite (.and [.eq false (.aQ (.aC (.var .X) .iR) (.b1 .abs (.var .d8))) (.int 0),.not (.aQ (.aC (.var .X) .iF) (.b1 .abs (.var .d8)))]) [.fK (.aC (.var .X) .iF) (.b1 .abs (.var .d8)) (.bool true),.expr (.c8 (.var .bU) (.b1 .abs (.var .d8)))] []]],.ret (.var .de)]
noncomputable def Dg:List St:=[.cV (.var .X) .q7 (.cJ .add (.aC (.var .X) .q7) (.int 1)),.bP .dM (.aZ (.var .X) .aO .HS [.var .gj]),.expr (.aZ (.var .X) .aO .oz [.var .dM]),.ite (.eq false (.var .dM) (.int 0)) [.expr (.aZ (.var .X) .aO .CU [.var .gj]),.ret .none] [],.jE [.bR,.eH] (.aZ (.var .X) .aO .Hw [.var .gj]),.jE [.eJ,.bO] (.aE [.call .sH [.var .bR],.var .gj]),.ite (.eq true (.var .eJ) (.call .sH [.aQ (.aC (.var .X) .fS) (.var .gj)])) [.bP .step (.aZ (.var .X) .aO .t_ [.var .eJ,.aQ (.aC (.var .X) .cK) (.var .gj),.var .eH]),.bP .bO (.aZ (.var .X) .aO .zg [.var .eJ,.var .step,.dw .gt (.b1 .len (.var .bR)) (.int 1)])] [.expr (.aZ (.var .X) .aO .HT [.var .bO])],.bP .bR (.lA (.nS (.var .bR) (.int 1)) (.aZ (.var .X) .aO .CZ [.from (.var .bR) (.int 1)])),.fK (.aC (.var .X) .fS) (.var .bO) (.var .bR),.ite (.dw .gt (.b1 .len (.var .bR)) (.int 1)) [.expr (.aZ (.var .X) .aO .C3 [.var .bO])] [],.expr (.aZ (.var .X) .aO .oz [.ite (.eq false (.b1 .len (.var .bR)) (.int 1)) (.int 0) (.aQ (.aC (.var .X) .iR) (.b1 .abs (.aQ (.var .bR) (.int 1))))]),.expr (.aZ (.var .X) .aO .pE [.aQ (.var .bR) (.int 0),.var .bO]),.expr (.aZ (.var .X) .aO .v_ [.var .bO]),.expr (.aZ (.aC (.var .X) .heap) .heap .Cy [])]
noncomputable def SR:List St:=[.ret .none]
noncomputable def SS:List St:=[.ret (.bool false)]
noncomputable def Dh:List St:=[.expr (.aZ (.var .X) .aO .oz [.int 0]),.tK (.var .X) .j4 .qe (.aE []) .none,.bP .Ii (.aC (.var .X) .q7),.kY (.aC (.var .X) .nK) [.bP .gj (.aZ (.var .X) .aO .HE []),.ite (.eq true (.var .gj) (.dO "NO_CLAUSE" (-1))) [.expr (.aZ (.var .X) .aO .HB [.var .gj])] [.ite (.and [.dw .gt (.aC (.var .X) .wL) (.int 0),.dw .ge (.cJ .sub (.aC (.var .X) .q7) (.var .Ii)) (.aC (.var .X) .wL)]) [.expr (.aZ (.var .X) .aO .oz [.int 0]),.ret (.str "unknown")] [.ite (.not (.aZ (.var .X) .aO .HD [])) [.bP .mO (.aZ (.var .X) .aO .HH [.var .lY]),.ite (.eq false (.var .mO) (.str "unsat")) [.expr (.aZ (.var .X) .aO .oz [.int 0])] [],.ite (.eq true (.var .mO) (.str "")) [.ret (.var .mO)] []] []]]],.cV (.var .X) .qe (.aC (.var .X) .ux),.expr (.aZ (.var .X) .aO .oz [.int 0]),.ret (.str "unsat")]
noncomputable def SX:List St:=[.ite (.dw .lt (.aZ (.var .X) .aO .pD []) (.b1 .len (.var .lY))) [.bP .lit (.aQ (.var .lY) (.aZ (.var .X) .aO .pD [])),.ite (.eq false (.aZ (.var .X) .aO .ic [.var .lit]) (.dO "FALSE" (-1))) [.expr (.aZ (.var .X) .aO .HA [.var .lit]),.ret (.str "unsat")] [],.expr (.aZ (.var .X) .aO .C2 []),.ite (.eq false (.aZ (.var .X) .aO .ic [.var .lit]) (.dO "UNKNOWN" 0)) [.expr (.aZ (.var .X) .aO .pE [.var .lit,.dO "NO_CLAUSE" (-1)])] [],.ret (.str "")] [],.bP .var (.aZ (.aC (.var .X) .heap) .heap .Hl [.aC (.var .X) .nj]),.ite (.eq false (.var .var) (.int 0)) [.ret (.aZ (.var .X) .aO .Hx [])] [],.cV (.var .X) .ur (.cJ .add (.aC (.var .X) .ur) (.int 1)),.expr (.aZ (.var .X) .aO .C2 []),.expr (.aZ (.var .X) .aO .pE [.ite (.eq false (.aQ (.aC (.var .X) .rS) (.var .var)) (.dO "TRUE" 1)) (.var .var) (.neg (.var .var)),.dO "NO_CLAUSE" (-1)]),.ret (.str "")]
noncomputable def SE:List St:=[.ret (.str "sat")]
noncomputable def Ie:List St:=[.bP .var (.b1 .abs (.var .lit)),.ite (.eq false (.aQ (.aC (.var .X) .iR) (.var .var)) (.int 0)) [.cV (.var .X) .j4 (.aE [.var .lit]),.cV (.var .X) .qe (.ite (.hV false (.aC (.var .X) .dK)) .none (.aZ (.var .X) .aO .CX [.var .var])),.ret .none] [],.ite (.eq false (.aQ (.aC (.var .X) .kx) (.var .var)) (.dO "NO_CLAUSE" (-1))) [.cV (.var .X) .j4 (.aE [.neg (.var .lit),.var .lit]),.ret .none] [],.jE [.ft,.bU,.eH,.rO,.first] (.aE [.dj [.var .lit],.dj [],.dj [],.dj [.var .var],.aQ (.aC (.var .X) .kx) (.var .var)]),.fK (.aC (.var .X) .iF) (.var .var) (.bool true),.expr (.aZ (.var .X) .aO .CV [.var .first,.var .var,.var .rO,.var .bU]),.for false [.cT] .eV [.cJ .sub (.aQ (.aC (.var .X) .pX) (.var .var)) (.int 1),.cJ .sub (.aQ (.aC (.var .X) .qI) (.int 0)) (.int 1),.neg (.int 1)] [.bP .d8 (.b1 .abs (.aQ (.aC (.var .X) .iU) (.var .cT))),.ite (.and [.aQ (.aC (.var .X) .iF) (.var .d8),.eq false (.aQ (.aC (.var .X) .kx) (.var .d8)) (.dO "NO_CLAUSE" (-1))]) [.expr (.c8 (.var .ft) (.aQ (.aC (.var .X) .iU) (.var .cT)))] [.ite (.aQ (.aC (.var .X) .iF) (.var .d8)) [.expr (.c8 (.var .eH) (.aE [.var .d8,.aQ (.aC (.var .X) .cK) (.aQ (.aC (.var .X) .kx) (.var .d8))])),.expr (.aZ (.var .X) .aO .CV [.aQ (.aC (.var .X) .kx) (.var .d8),.var .d8,.var .rO,.var .bU])] []]],.for false [.d8] .seq [.var .rO] [.fK (.aC (.var .X) .iF) (.var .d8) (.bool false)],.expr (.ext (.var .eH) (.aZ (.var .X) .aO .zc [.var .bU])),.cV (.var .X) .j4 (.b1 .tuple (.var .ft)),.cV (.var .X) .qe (.aZ (.var .X) .aO .t_ [.call .sH [.comp (.neg (.var .d8)) false [.d8] .seq [.var .ft] []],.aQ (.aC (.var .X) .cK) (.var .first),.var .eH])]
noncomputable def SO:List St:=[.for false [.lit] .seq [.aQ (.aC (.var .X) .fS) (.var .bO)] [.bP .var (.b1 .abs (.var .lit)),.ite (.and [.eq true (.var .var) (.var .qG),.not (.aQ (.aC (.var .X) .iF) (.var .var))]) [.fK (.aC (.var .X) .iF) (.var .var) (.bool true),.expr (.c8 (.var .rO) (.var .var)),.ite (.eq false (.aQ (.aC (.var .X) .iR) (.var .var)) (.int 0)) [.expr (.c8 (.var .bU) (.var .var))] []] []]]
noncomputable def TX:List St:=[.ret (.aE [.b1 .abs (.var .gq),.dw .gt (.var .gq) (.int 0)])]
noncomputable def T1:List St:=[.bP .de (.q9 [] []),.for false [.gq] .seq [.var .OH] [.ite (.jh false (.neg (.var .gq)) (.var .de)) [.ret .none] [],.qE (.var .de) (.var .gq) (.bool true)],.ret (.b1 .tuple (.sorted (.var .de) (.fn .PD) false))]
noncomputable def TJ:List St:=[.for false [.jk] .eV [.b1 .len (.var .eJ)] [.ite (.eq false (.aQ (.var .eJ) (.var .jk)) (.int 0)) [.ret (.bool false)] [],.ite (.and [.dw .gt (.var .jk) (.int 0),.dw .ge (.b1 .abs (.aQ (.var .eJ) (.cJ .sub (.var .jk) (.int 1)))) (.b1 .abs (.aQ (.var .eJ) (.var .jk)))]) [.ret (.bool false)] []],.ret (.bool true)]
noncomputable def TZ:List St:=[.ite (.and [.jh false (.var .iw) (.var .cC),.jh false (.neg (.var .iw)) (.var .gu)]) [.bP .aY (.comp (.var .gq) false [.gq] .seq [.var .cC] [.eq true (.var .gq) (.var .iw)]),.expr (.ext (.var .aY) (.comp (.var .gq) false [.gq] .seq [.var .gu] [.eq true (.var .gq) (.neg (.var .iw))]))] [.ite (.and [.jh false (.neg (.var .iw)) (.var .cC),.jh false (.var .iw) (.var .gu)]) [.bP .aY (.comp (.var .gq) false [.gq] .seq [.var .cC] [.eq true (.var .gq) (.neg (.var .iw))]),.expr (.ext (.var .aY) (.comp (.var .gq) false [.gq] .seq [.var .gu] [.eq true (.var .gq) (.var .iw)]))] [.n8]],.ret (.call .G1 [.var .aY])]
noncomputable def Tb:List St:=[.cV (.var .X) .cK (.dj []),.cV (.var .X) .FZ (.dj [.int 0]),.cV (.var .X) .sO (.neg (.int 1))]
noncomputable def Tc:List St:=[.ret (.b1 .len (.aC (.var .X) .cK))]
noncomputable def Ta:List St:=[.ret (.aQ (.aQ (.aC (.var .X) .cK) (.var .step)) (.int 1))]
noncomputable def S9:List St:=[.bP .bO (.b1 .len (.aC (.var .X) .cK)),.ite (.jh true (.var .rule) .vB) [.n8] [],.ite (.not (.call .N8 [.var .eJ])) [.n8] [],.for false [.cC] .seq [.var .tG] [.ite (.not (.qU (.int 0) (.var .cC) (.var .bO))) [.n8] []],.expr (.c8 (.aC (.var .X) .cK) (.aE [.var .rule,.b1 .tuple (.var .eJ),.b1 .tuple (.var .tG),.var .F8])),.ite (.and [.eq false (.b1 .len (.var .eJ)) (.int 0),.dw .lt (.aC (.var .X) .sO) (.int 0)]) [.cV (.var .X) .sO (.var .bO)] [],.ret (.var .bO)]
noncomputable def S_:List St:=[.bP .tO (.aZ (.var .X) .cK .pC [.var .first]),.for true [.iw,.gu] .seq [.var .eH] [.bP .tO (.call .PZ [.var .tO,.aZ (.var .X) .cK .pC [.var .gu],.var .iw]),.ite (.hV false (.var .tO)) [.n8] []],.ite (.eq false (.b1 .len (.var .eH)) (.int 0)) [.ret (.var .first)] [],.bP .tG (.qJ (.aE [.var .first]) (.b1 .tuple (.comp (.var .gu) true [.iw,.gu] .seq [.var .eH] []))),.ret (.aZ (.var .X) .cK .wd [.str "resolve",.var .tO,.var .tG,.b1 .tuple (.comp (.var .iw) true [.iw,.gu] .seq [.var .eH] [])])]
noncomputable def TP:List St:=[.bP .cells (.comp (.cJ .mod (.b1 .abs (.b1 .int (.var .cC))) (.int 1000003)) false [.cC] .seq [.nS (.var .vE) (.int 40)] []),.ret (.q9 ["cells","turn"] [.ite (.jf true (.var .cells)) (.var .cells) (.dj [.int 11,.int 4,.int 27,.int 6,.int 18,.int 35,.int 2,.int 40,.int 9]),.int 0])]
noncomputable def TN:List St:=[.jE [.cells,.fP] (.aE [.rn (.var .jv) (.str "cells"),.rn (.var .jv) (.str "turn")]),.qE (.var .jv) (.str "turn") (.cJ .add (.var .fP) (.int 1)),.jE [.cT,.pQ] (.aE [.cJ .mod (.var .fP) (.b1 .len (.var .cells)),.cJ .fdiv (.var .fP) (.b1 .len (.var .cells))]),.ret (.cJ .mod (.cJ .add (.cJ .add (.aQ (.var .cells) (.var .cT)) (.cJ .mul (.var .pQ) (.cJ .add (.cJ .mul (.int 2) (.var .cT)) (.int 3)))) (.cJ .fdiv (.cJ .mul (.var .pQ) (.var .pQ)) (.int 2))) (.var .size))]
noncomputable def TR:List St:=[.bP .var (.cJ .add (.int 1) (.call .rK [.var .jv,.var .fH])),.ret (.ite (.eq false (.call .rK [.var .jv,.int 2]) (.int 0)) (.var .var) (.neg (.var .var)))]
noncomputable def TU:List St:=[.bP .ft (.dj [.aE []]),.for false [.pQ] .eV [.var .fH] [.bP .ft (.sI (.qJ (.var .row) (.aE [.var .cC])) .row (.var .ft) .cC (.aE [.bool false,.bool true]))],.ret (.var .ft)]
noncomputable def TQ:List St:=[.for false [.lit] .seq [.var .bR] [.ite (.eq false (.aQ (.var .fW) (.cJ .sub (.b1 .abs (.var .lit)) (.int 1))) (.dw .gt (.var .lit) (.int 0))) [.ret (.bool true)] []],.ret (.bool false)]
noncomputable def TK:List St:=[.for false [.lit] .seq [.var .bR] [.ite (.eq true (.aQ (.var .fW) (.cJ .sub (.b1 .abs (.var .lit)) (.int 1))) (.dw .gt (.var .lit) (.int 0))) [.ret (.bool false)] []],.ret (.bool true)]
noncomputable def TM:List St:=[.bP .ft (.dj []),.for false [.lit] .seq [.var .bR] [.ite (.jh false (.neg (.var .lit)) (.var .bR)) [.ret .none] [],.ite (.jh true (.var .lit) (.var .ft)) [.expr (.c8 (.var .ft) (.var .lit))] []],.ret (.b1 .tuple (.sorted (.var .ft) .mn false))]
noncomputable def TS:List St:=[.bP .row (.comp (.aZ (.var .eK) .aO .ic [.var .var]) false [.var] .eV [.int 1,.cJ .add (.var .fH) (.int 1)] []),.ite (.jf true (.comp (.var .cC) false [.cC] .seq [.var .row] [.jh true (.var .cC) (.aE [.int 1,.neg (.int 1)])])) [.ret (.bool false)] [],.ite (.p9 true (.comp (.aZ (.var .eK) .aO .ic [.neg (.var .var)]) false [.var] .eV [.int 1,.cJ .add (.var .fH) (.int 1)] []) (.comp (.neg (.var .cC)) false [.cC] .seq [.var .row] [])) [.ret (.bool false)] [],.bP .fW (.b1 .tuple (.comp (.eq false (.var .cC) (.int 1)) false [.cC] .seq [.var .row] [])),.ret (.and [.jh false (.var .fW) (.var .fj),.call .vi [.var .given,.var .fW]])]
noncomputable def TO:List St:=[.bP .j4 (.b1 .list (.aZ (.var .eK) .aO .Hy [])),.ite (.jf true (.comp (.var .lit) false [.lit] .seq [.var .j4] [.jh true (.var .lit) (.var .given)])) [.ret (.bool false)] [],.ite (.jf true (.comp (.var .fW) false [.fW] .seq [.var .fj] [.call .vi [.var .j4,.var .fW]])) [.ret (.bool false)] [],.jE [.step,.uw] (.aE [.aZ (.var .eK) .aO .Hz [],.call .ql [.comp (.neg (.var .lit)) false [.lit] .seq [.var .j4] []]]),.ite (.or [.hV false (.var .dK),.hV false (.var .uw)]) [.ret (.hV false (.var .step))] [],.ret (.eq false (.aZ (.var .dK) .cK .pC [.var .step]) (.var .uw))]
noncomputable def Ig:List St:=[.bP .iq (.b1 .list (.aZ (.var .eK) .aO .HC [])),.ite (.hV true (.var .dK)) [.bP .iq (.lA (.var .iq) (.comp (.aZ (.var .dK) .cK .pC [.var .bO]) false [.bO] .eV [.aZ (.var .dK) .cK .HJ []] []))] [],.for false [.eJ] .seq [.var .iq] [.ite (.jf true (.comp (.var .fW) false [.fW] .seq [.var .fj] [.not (.call .Bh [.var .eJ,.var .fW])])) [.ret (.bool false)] []],.ret (.aZ (.var .eK) .aO .HN [])]
noncomputable def zu:List St:=[.bP .jv (.call .OA [.var .vE]),.bP .fH (.cJ .add (.int 2) (.call .rK [.var .jv,.int 4])),.bP .dK (.ite (.eq false (.call .rK [.var .jv,.int 2]) (.int 0)) (.new .cK .ze []) .none),.bP .eK (.new .aO .dN [.var .dK,.none]),.ite (.p9 true (.comp (.aZ (.var .eK) .aO .zb []) false [.pQ] .eV [.var .fH] []) (.rM [.int 1,.cJ .add (.var .fH) (.int 1)])) [.ret (.bool false)] [],.jE [.fj,.«at»] (.aE [.call .OD [.var .fH],.int 0]),.for false [.aft] .eV [.int 3] [.for false [.pQ] .eV [.cJ .add (.int 1) (.call .rK [.var .jv,.int 6])] [.bP .bR (.comp (.call .Bi [.var .jv,.var .fH]) false [.cC] .eV [.cJ .add (.int 1) (.call .rK [.var .jv,.int 3])] []),.jE [.eJ,.step] (.aE [.call .ql [.var .bR],.none]),.ite (.and [.hV true (.var .dK),.hV true (.var .eJ)]) [.bP .step (.aZ (.var .dK) .cK .wd [.str "input",.var .eJ,.aE [],.var .«at»])] [],.bP .«at» (.cJ .add (.var .«at») (.int 1)),.bP .iq (.aZ (.var .eK) .aO .Hv [.var .bR,.var .step]),.bP .fj (.comp (.var .fW) false [.fW] .seq [.var .fj] [.call .Bh [.var .bR,.var .fW]]),.ite (.and [.rH true (.var .iq) true,.or [.rH true (.var .iq) false,.jf true (.var .fj)]]) [.ret (.bool false)] []],.bP .given (.comp (.call .Bi [.var .jv,.var .fH]) false [.cC] .eV [.call .rK [.var .jv,.int 4]] []),.bP .mO (.aZ (.var .eK) .aO .HG [.var .given]),.bP .ox (.comp (.var .fW) false [.fW] .seq [.var .fj] [.call .vi [.var .given,.var .fW]]),.ite (.eq true (.var .mO) (.ite (.jf true (.var .ox)) (.str "sat") (.str "unsat"))) [.ret (.bool false)] [],.ite (.and [.jf true (.var .ox),.not (.call .OB [.var .eK,.var .fH,.var .fj,.var .given])]) [.ret (.bool false)] [],.ite (.and [.jf false (.var .ox),.not (.call .Oz [.var .eK,.var .dK,.var .fj,.var .given])]) [.ret (.bool false)] [],.ite (.not (.call .OC [.var .eK,.var .dK,.var .fj])) [.ret (.bool false)] []],.ret (.bool true)]
noncomputable def J6:List (List Nm×List St):=[([.X,.oS],Si),([.X],Sm),([.X,.var],Sl),([.X,.cC,.gu],Sj),([.X,.n],Sh),([.X,.cT,.var],Sv),([.X,.cT],Sz),([.X,.cT],Sa),([.X,.cT],SD),([.X,.var],Su),([.X],Sp),([.X,.yh],Sr),([.X,.var],Se),([.X],Sg),([.X],Sy),([.X],Sw),([.lit],TY),([.lit],TV),([.bR],TG),([.eJ],TH),([.X,.jy],Tp),([.X],Tn),([.X,.lit],TB),([.X],Ti),([.X,.var],Tu),([.X,.ox],Tf),([.X,.eJ,.step,.Dz],Tw),([.X,.bO],TF),([.X,.bO],Tz),([.X,.lit],To),([.X,.bR],Te),([.X,.bO],Tx),([.X,.bO],Di),([.X,.lit,.bO],Tj),([.X],Ts),([.X,.yk],Th),([.X],Tt),([.X,.fZ],TC),([.X,.bO,.bR],Tr),([.X],Tq),([.X,.dK,.jy],SJ),([.X],SP),([.X,.bR,.step],Ic),([.X],SM),([.X],SG),([.X],SH),([.X,.eJ,.first,.eH],SN),([.X,.ox],SV),([.X,.var],SY),([.X,.bO],SF),([.X],SU),([.X,.bO,.qG,.aY,.bU],SQ),([.X,.gj],Df),([.X,.lit],SK),([.X,.aY,.bU,.eH],SW),([.X,.gj],Dg),([.X,.bO],SR),([.X],SS),([.X,.lY],Dh),([.X,.lY],SX),([.X],SE),([.X,.lit],Ie),([.X,.bO,.qG,.rO,.bU],SO),([.gq],TX),([.OH],T1),([.eJ],TJ),([.cC,.gu,.iw],TZ),([.X],Tb),([.X],Tc),([.X,.step],Ta),([.X,.rule,.eJ,.tG,.F8],S9),([.X,.first,.eH],S_),([.vE],TP),([.jv,.size],TN),([.jv,.fH],TR),([.fH],TU),([.bR,.fW],TQ),([.bR,.fW],TK),([.bR],TM),([.eK,.fH,.fj,.given],TS),([.eK,.dK,.fj,.given],TO),([.eK,.dK,.fj],Ig),([.vE],zu)]
noncomputable def eQ(f:aJ):List Nm×List St:=nQ ([],[]) J6 f.i.1
noncomputable def RU:List Nat:=[93,100,107,114,121,128,135,142,149,156,163,170,177,184,189,196,210,217,224,231,245,252,266,273,280,287,294,301,306,313,320,327,334,341,348,355,362,369,376,381,404,411,418,425,432,439,446,451,458,463,470,477,482,489,494,501,508,515,522,529,536,541,548,561,568,575,580,594,622,629,643,648,660,667,674,679,686,693,700,705,710,715,720]
noncomputable def fi(f:aJ):Nat:=nQ 0 RU f.i.1
section
open PySem PySem.W PySem.Calls PyProof.Rows
noncomputable abbrev Nm.S(x:Nm):PySem.Str:=PySem.Str.ofString x.str
noncomputable def gS:Cl->Addr
 |.heap=>199
 |.aO=>551
 |.cK=>651
noncomputable abbrev fV(aj:List Value)(n:Nat):Obj:=seqObj "tuple" aj.toArray n
abbrev Kd:=PySem.Str->Option NameKind
abbrev PS(s:String):PySem.Str:=PySem.Str.ofString s
noncomputable def uI:List (String×Int):=[("FIRST_STEP",1024),("SHRINK",20),("UNKNOWN",0),("TRUE",1),("FALSE",-1),("NO_CLAUSE",-1)]
noncomputable def Ae(n:String):Option Int:=uI.lookup n
noncomputable def Wh:List String:=["__init__","many","is_held","is_before","grow","put","rise","better_child","sink","push","pop","pop_best","bump","decay","rescale","rebuild","place_of","order_key","clause_of","is_always_true","__init__","grow","value","depth","spot_of","by_spots","store","watch","unwatch","height","by_heights","top_level","place","enqueue","new_level","cancel_until","propagate_clauses","visit","moved","is_sound","__init__","new_var","add_clause","learnt_clauses","failed_assumptions","failed_step","log_chain","root_pairs","unit_step","fail_at_root","propagate","note_lits","analyze","is_implied","shortened","handle","note_use","pause","solve","step_on","ask_final","find_failed","mark_others","order_of","tidy","is_tidy","resolve_on","__init__","size","clause","add","chain","_law_feed","_law_draw","_law_literal","_law_worlds","_law_holds","_law_all_true","_law_clause","_law_model_right","_law_failed_right","_law_steps_right","law"]
noncomputable def aJ.nm(f:aJ):String:=nQ "" Wh f.i.1
noncomputable def aJ.cls(f:aJ):Option Cl:=cond (Nat.blt f.i.1 16) (some .heap) (cond (Nat.blt f.i.1 20) none (cond (Nat.blt f.i.1 63) (some .aO) (cond (Nat.blt f.i.1 67) none (cond (Nat.blt f.i.1 72) (some .cK) none))))
noncomputable def Cl.nm:Cl->String|.heap=>"CoreHeap"|.aO=>"Search"|.cK=>"Steps"
noncomputable def Cl.n9:Cl->Cl->Bool
 |.heap,.heap=>true|.aO,.aO=>true|.cK,.cK=>true|_,_=>false
noncomputable def tR.op:tR->Operator|.add=>.Add|.sub=>.Sub|.mul=>.Mult|.fdiv=>.FloorDiv|.mod=>.Mod
noncomputable def vT.op:vT->CmpOp|.lt=>.Lt|.le=>.LtE|.gt=>.Gt|.ge=>.GtE
noncomputable def U1.nm:U1->String|.len=>"len"|.abs=>"abs"|.tuple=>"tuple"|.list=>"list"|.int=>"int"
noncomputable def U2.nm:U2->String|.max=>"max"|.min=>"min"
noncomputable def p_(ne:Bool):CmpOp:=if ne then .NotEq else .Eq
noncomputable def x7(ne:Bool):CmpOp:=if ne then .IsNot else .Is
noncomputable def u0(ne:Bool):CmpOp:=if ne then .NotIn else .In
noncomputable def mB(sc:Scope):Kd:=λx=>sc.names.lookup x
noncomputable def pO(kd:Kd)(x:Nm):Bool:=kd x.S==some .local||kd x.S==some .cell||kd x.S==some .free
noncomputable def iQ(kd:Kd)(x:String):Bool:=kd (PS x)==some .globalImplicit
noncomputable def lc(kd:Kd)(n:PySem.Str):Bool:=kd n==some .local||kd n==some .cell
noncomputable def FO(kd:Kd)(n:PySem.Str):Bool:=kd n==some .local
noncomputable def dE:Expr:=.Constant .none 0 ⟨0,0,0,0⟩
structure RD where
 gL:List Expr
 k:Nat
 sc:Scope
 dk:List (Option Expr)
 kw:List Keyword
 ap:List Arg
noncomputable def mY:Scope:=⟨.function,[],false,false,[]⟩
noncomputable def u7:Expr->RD
 |.BoolOp _ E _=>⟨E,0,mY,[],[],[]⟩
 |.BinOp a _ b _=>⟨[a,b],0,mY,[],[],[]⟩
 |.UnaryOp _ a _=>⟨[a],0,mY,[],[],[]⟩
 |.Lambda as b sc _=>⟨[b],0,sc,[],[],as.args⟩
 |.IfExp a b c _=>⟨[a,b,c],0,mY,[],[],[]⟩
 |.Dict d E _=>⟨E,0,mY,d,[],[]⟩
 |.ListComp e g sc _=>⟨e::g.flatMap λc=>c.target::c.iter::c.ifs,0,sc,[],[],[]⟩
 |.Compare a _ bs _=>⟨a::bs,0,mY,[],[],[]⟩
 |.Call f as d _=>⟨f::as,0,mY,[],d,[]⟩
 |.Attribute a _ _=>⟨[a],0,mY,[],[],[]⟩
 |.Subscript a b _=>⟨[a,b],0,mY,[],[],[]⟩
 |.List es _=>⟨es,0,mY,[],[],[]⟩
 |.Tuple es k _=>⟨es,k,mY,[],[],[]⟩
 |.Slice a b _ _=>⟨a.toList++b.toList,0,mY,[],[],[]⟩
 |.Constant _ k _=>⟨[],k,mY,[],[],[]⟩
 |_=>⟨[],0,mY,[],[],[]⟩
noncomputable abbrev gL(e:Expr):List Expr:=(u7 e).gL
noncomputable def aG(e:Expr)(i:Nat):Expr:=nQ dE (gL e) i
noncomputable def hd(l:List Expr):Expr:=nQ dE l 0
noncomputable abbrev ml(e:Expr):Nat:=(u7 e).k
noncomputable abbrev lJ(e:Expr):Scope:=(u7 e).sc
noncomputable def Vj(e:Expr):List Expr:=(u7 e).dk.filterMap id
noncomputable def rJ(e:Expr)(i:Nat):Keyword:=nQ ⟨none,dE,dE.pos⟩ (u7 e).kw i
noncomputable def R5(e:Expr):Pos:=(nQ ⟨PS "",none,dE.pos⟩ (u7 e).ap 0).pos
noncomputable def Fb:Stmt->List Expr×List Stmt×List Stmt
 |.Expr e _=>([e],[],[])
 |.Assign a v _=>(v::a,[],[])
 |.If c b d _=>([c],b,d)
 |.While c b _ _=>([c],b,[])
 |.For t i b _ _=>([t,i],b,[])
 |.Return v _=>(v.toList,[],[])
 |_=>([],[],[])
noncomputable abbrev uG(s:Stmt):List Expr:=(Fb s).1
noncomputable def cH(s:Stmt)(i:Nat):Expr:=nQ dE (uG s) i
noncomputable abbrev uc(s:Stmt):List Stmt:=(Fb s).2.1
noncomputable abbrev Jn(s:Stmt):List Stmt:=(Fb s).2.2
noncomputable def dS:Stmt:=.Pass ⟨0,0,0,0⟩
noncomputable def yq:List Nm->List Expr->List Expr
 |[],_=>[]
 |x::xs,ps=>.Name x.S (hd ps).pos::yq xs ps.tail
noncomputable def GZ(aE:Bool)(xs:List Nm)(e:Expr):Expr:=cond aE (.Tuple (yq xs (gL e)) (ml e) e.pos) (hd (yq xs [e]))
noncomputable def DK:List String->List Expr->List (Option Expr)
 |[],_=>[]
 |k::a,ps=>some (.Constant (.str (PS k)) (ml (hd ps)) (hd ps).pos)::DK a ps.tail
noncomputable def Od:k_->Expr->Expr
 |.fn f,e=>.Name (PS f.nm) e.pos
 |.bm f,e=>.Attribute (.Name (PS "self") (aG e 0).pos) (PS f.nm) e.pos
 |.mn,e=>.Lambda ⟨[],[⟨PS "lit",none,R5 e⟩],none,[],[],none,[]⟩ (.Call (.Name (PS "abs") (aG (aG e 0) 0).pos) [.Name (PS "lit") (aG (aG e 0) 1).pos] [] (aG e 0).pos) (lJ e) e.pos
noncomputable def Fv(k:k_)(bW:Bool)(e:Expr):List Keyword:=
 ⟨some (PS "key"),Od k (rJ e 0).value,(rJ e 0).pos⟩::cond bW [⟨some (PS "reverse"),.Constant (.bool true) (ml (rJ e 1).value) (rJ e 1).value.pos,(rJ e 1).pos⟩] []
noncomputable def vb:sj->Expr->List Expr
 |.eV,e=>(gL e).tail
 |.seq,e=>[e]
noncomputable def Fh:sj->List Expr->Expr->Expr
 |.eV,ps,e=>.Call (.Name (PS "range") (aG e 0).pos) ps [] e.pos
 |.seq,ps,_=>hd ps
noncomputable def tw(n:String)(as:List Expr)(a:List Keyword)(e:Expr):Expr:=.Call (.Name (PS n) (aG e 0).pos) as a e.pos
noncomputable def yo(o:Expr)(n:String)(as:List Expr)(a:List Keyword)(e:Expr):Expr:=.Call (.Attribute o (PS n) (aG e 0).pos) as a e.pos
mutual
noncomputable def bV:a7->Expr->Expr
 |.none,e=>.Constant .none (ml e) e.pos
 |.bool b,e=>.Constant (.bool b) (ml e) e.pos
 |.int i,e=>.Constant (.int i) (ml e) e.pos
 |.str s,e=>.Constant (.str (PS s)) (ml e) e.pos
 |.dO n _,e=>.Name (PS n) e.pos
 |.vB,e=>.Name (PS "RULES") e.pos
 |.var n,e=>.Name n.S e.pos
 |.aC a n,e=>.Attribute (bV a (aG e 0)) n.S e.pos
 |.aE es,e=>.Tuple (jm es (gL e)) (ml e) e.pos
 |.dj es,e=>.List (jm es (gL e)) e.pos
 |.q9 d es,e=>.Dict (DK d (Vj e)) (jm es (gL e)) e.pos
 |.cJ op a b,e=>.BinOp (bV a (aG e 0)) op.op (bV b (aG e 1)) e.pos
 |.lA a b,e=>.BinOp (bV a (aG e 0)) .Add (bV b (aG e 1)) e.pos
 |.qJ a b,e=>.BinOp (bV a (aG e 0)) .Add (bV b (aG e 1)) e.pos
 |.neg a,e=>.UnaryOp .USub (bV a (aG e 0)) e.pos
 |.not a,e=>.UnaryOp .Not (bV a (aG e 0)) e.pos
 |.and es,e=>.BoolOp .And (jm es (gL e)) e.pos
 |.or es,e=>.BoolOp .Or (jm es (gL e)) e.pos
 |.dw op a b,e=>.Compare (bV a (aG e 0)) [op.op] [bV b (aG e 1)] e.pos
 |.qU a b c,e=>.Compare (bV a (aG e 0)) [.LtE,.Lt] [bV b (aG e 1),bV c (aG e 2)] e.pos
 |.eq ne a b,e=>.Compare (bV a (aG e 0)) [p_ ne] [bV b (aG e 1)] e.pos
 |.jf ne a,e=>.Compare (bV a (aG e 0)) [p_ ne] [.List [] (aG e 1).pos] e.pos
 |.p9 ne a b,e=>.Compare (bV a (aG e 0)) [p_ ne] [bV b (aG e 1)] e.pos
 |.hV ne a,e=>.Compare (bV a (aG e 0)) [x7 ne] [.Constant .none (ml (aG e 1)) (aG e 1).pos] e.pos
 |.rH ne a b,e=>.Compare (bV a (aG e 0)) [x7 ne] [.Constant (.bool b) (ml (aG e 1)) (aG e 1).pos] e.pos
 |.jh ne a b,e=>.Compare (bV a (aG e 0)) [u0 ne] [bV b (aG e 1)] e.pos
 |.ite c a b,e=>.IfExp (bV c (aG e 0)) (bV a (aG e 1)) (bV b (aG e 2)) e.pos
 |.aQ a i,e=>.Subscript (bV a (aG e 0)) (bV i (aG e 1)) e.pos
 |.rn a i,e=>.Subscript (bV a (aG e 0)) (bV i (aG e 1)) e.pos
 |.nS a b,e=>.Subscript (bV a (aG e 0)) (.Slice none (some (bV b (aG (aG e 1) 0))) none (aG e 1).pos) e.pos
 |.from a b,e=>.Subscript (bV a (aG e 0)) (.Slice (some (bV b (aG (aG e 1) 0))) none none (aG e 1).pos) e.pos
 |.b1 f a,e=>tw f.nm [bV a (aG e 1)] [] e
 |.b2 f a b,e=>tw f.nm [bV a (aG e 1),bV b (aG e 2)] [] e
 |.rM es,e=>tw "list" [tw "range" (jm es (gL (aG e 1)).tail) [] (aG e 1)] [] e
 |.sorted a k bW,e=>tw "sorted" [bV a (aG e 1)] (Fv k bW e) e
 |.c8 o a,e=>yo (bV o (aG (aG e 0) 0)) "append" [bV a (aG e 1)] [] e
 |.ext o a,e=>yo (bV o (aG (aG e 0) 0)) "extend" [bV a (aG e 1)] [] e
 |.qz o,e=>yo (bV o (aG (aG e 0) 0)) "pop" [] [] e
 |.vG o k bW,e=>yo (bV o (aG (aG e 0) 0)) "sort" [] (Fv k bW e) e
 |.call f es,e=>tw f.nm (jm es (gL e).tail) [] e
 |.aZ o _ f es,e=>yo (bV o (aG (aG e 0) 0)) f.nm (jm es (gL e).tail) [] e
 |.new c _ es,e=>tw c.nm (jm es (gL e).tail) [] e
 |.vL _,e=>e
 |.comp cN aE xs k it g,e=>.ListComp (bV cN (aG e 0)) [⟨GZ aE xs (aG e 1),Fh k (jm it (vb k (aG e 2))) (aG e 2),jm g (gL e).tail.tail.tail,0⟩] (lJ e) e.pos
 |.sI cN x a y b,e=>.ListComp (bV cN (aG e 0)) [⟨.Name x.S (aG e 1).pos,bV a (aG e 2),[],0⟩,⟨.Name y.S (aG e 3).pos,bV b (aG e 4),[],0⟩] (lJ e) e.pos
noncomputable def jm:List a7->List Expr->List Expr
 |[],_=>[]
 |x::xs,ps=>bV x (hd ps)::jm xs ps.tail
end
noncomputable def zM(e:a7):Bool:=e.ctorIdx==43||e.ctorIdx==44
noncomputable def fI(e:Expr):Bool:=!(e.ctorIdx==26||e.ctorIdx==22)
noncomputable def mz(e:Expr):Bool:=e.ctorIdx !=16
noncomputable def u9(e:Expr):Bool:=e.ctorIdx==7
noncomputable def qw(e:Expr):Bool:=e.ctorIdx !=5
noncomputable def rQ(e:Expr):Bool:=!(e.ctorIdx==8||(e.ctorIdx==9||e.ctorIdx==10))
noncomputable def G7(e:Expr):Bool:=e.ctorIdx !=25|| !((gL e).all (constantsAlone 8))
noncomputable def wK(kd:Kd)(sc:Scope)(xs:List Nm):Bool:=
 sc.kind== .function&&sc.names.all λp=>p.2 != .cell&&(p.2 != .local||(sc.names.lookup p.1==some .local&&(p.1==PS ".0"||xs.any λx=>x.S==p.1)))&&(p.2 != .free||kd p.1==some .cell)&&p.2 != .globalExplicit
noncomputable def FC(sc:Scope)(a:Pos):Bool:=sc.names==[(PS "lit",.local),(PS "abs",.globalImplicit)]&&(sc.kind== .function&&(!sc.isGenerator&&(!sc.isCoroutine&&(a.line==700&&a.col==35))))
noncomputable def Ba(kd:Kd)(e:Expr):k_->Bool
 |.fn f=>iQ kd f.nm&&f.cls.isNone
 |.bm f=>pO kd .X&&(f.nm !="__init__"&&f.cls.any (Cl.n9 .aO))
 |.mn=>kd (PS "%lam")==some .globalExplicit&&FC (lJ e) e.pos
noncomputable def Fi(kd:Kd)(cC:Bool)(p:Expr):sj->Bool
 |.eV=>iQ kd "range"
 |.seq=>cC&& !u9 p
noncomputable def F3(c:Cl)(es:List a7):Bool:=match c with|.heap=>es.isEmpty|_=>true
noncomputable def Ce(ok:PySem.Str->Bool)(aE:Bool)(xs:List Nm):Bool:=xs.all (λx=>ok x.S)&&(decide xs.Nodup&&xs.length==cond aE 2 1)
noncomputable def rR(e:Expr):Bool:=(aG e 0).pos.endLine==e.pos.line
mutual
noncomputable def wf(kd:Kd):a7->Expr->Bool
 |.dO n i,_=>iQ kd n&&Ae n==some i
 |.vB,_=>iQ kd "RULES"
 |.var n,_=>pO kd n
 |.aC a _,e=>mz (bV a (aG e 0))&&wf kd a (aG e 0)
 |.aE es,e=>decide (es.length<=16)&&mF kd es (gL e)
 |.dj es,e=>decide (es.length<=16)&&mF kd es (gL e)
 |.q9 d es,e=>decide (d.Nodup/\d.length<=15/\d.length=es.length)&&mF kd es (gL e)
 |.cJ _ a b,e=>wf kd a (aG e 0)&&wf kd b (aG e 1)
 |.lA a b,e=>wf kd a (aG e 0)&&wf kd b (aG e 1)
 |.qJ a b,e=>wf kd a (aG e 0)&&wf kd b (aG e 1)
 |.neg a,e=>wf kd a (aG e 0)
 |.not a,e=>qw (bV a (aG e 0))&&wf kd a (aG e 0)
 |.and es,e=>!es.isEmpty&&((jm es (gL e)).all qw&&mF kd es (gL e))
 |.or es,e=>!es.isEmpty&&((jm es (gL e)).all qw&&mF kd es (gL e))
 |.dw _ a b,e=>wf kd a (aG e 0)&&wf kd b (aG e 1)
 |.qU a b c,e=>lastMarks [.LtE,.Lt] [bV b (aG e 1),bV c (aG e 2)]==false&&(wf kd a (aG e 0)&&(wf kd b (aG e 1)&&wf kd c (aG e 2)))
 |.eq _ a b,e=>wf kd a (aG e 0)&&wf kd b (aG e 1)
 |.jf _ a,e=>wf kd a (aG e 0)
 |.p9 _ a b,e=>wf kd a (aG e 0)&&wf kd b (aG e 1)
 |.hV _ a,e=>wf kd a (aG e 0)
 |.rH _ a _,e=>wf kd a (aG e 0)
 |.jh ne a b,e=>behindInMarks (u0 ne) (bV b (aG e 1))==false&&(wf kd a (aG e 0)&&wf kd b (aG e 1))
 |.ite c a b,e=>qw (bV c (aG e 0))&&(wf kd c (aG e 0)&&(wf kd a (aG e 1)&&wf kd b (aG e 2)))
 |.aQ a i,e=>fI (bV i (aG e 1))&&(wf kd a (aG e 0)&&wf kd i (aG e 1))
 |.rn a i,e=>fI (bV i (aG e 1))&&(wf kd a (aG e 0)&&wf kd i (aG e 1))
 |.nS a b,e=>wf kd a (aG e 0)&&wf kd b (aG (aG e 1) 0)
 |.from a b,e=>wf kd a (aG e 0)&&wf kd b (aG (aG e 1) 0)
 |.b1 f a,e=>iQ kd f.nm&&(fI (bV a (aG e 1))&&wf kd a (aG e 1))
 |.b2 f a b,e=>iQ kd f.nm&&(fI (bV a (aG e 1))&&(fI (bV b (aG e 2))&&(wf kd a (aG e 1)&&wf kd b (aG e 2))))
 |.rM es,e=>iQ kd "list"&&(iQ kd "range"&&mF kd es (gL (aG e 1)).tail)
 |.sorted a k _,e=>iQ kd "sorted"&&(Ba kd (rJ e 0).value k&&(fI (bV a (aG e 1))&&wf kd a (aG e 1)))
 |.c8 o a,e=>rR e&&(mz (bV o (aG (aG e 0) 0))&&(wf kd o (aG (aG e 0) 0)&&(fI (bV a (aG e 1))&&wf kd a (aG e 1))))
 |.ext o a,e=>rR e&&(mz (bV o (aG (aG e 0) 0))&&(wf kd o (aG (aG e 0) 0)&&(fI (bV a (aG e 1))&&wf kd a (aG e 1))))
 |.qz o,e=>rR e&&(mz (bV o (aG (aG e 0) 0))&&wf kd o (aG (aG e 0) 0))
 |.vG o k _,e=>rR e&&(mz (bV o (aG (aG e 0) 0))&&(wf kd o (aG (aG e 0) 0)&&Ba kd (rJ e 0).value k))
 |.call f es,e=>iQ kd f.nm&&(f.cls.isNone&&mF kd es (gL e).tail)
 |.aZ o c f es,e=>rR e&&(mz (bV o (aG (aG e 0) 0))&&(f.nm !="__init__"&&(f.cls.any (Cl.n9 c)&&(decide (es.length<=8)&&(wf kd o (aG (aG e 0) 0)&&mF kd es (gL e).tail)))))
 |.new c f es,e=>iQ kd c.nm&&(f.cls.any (Cl.n9 c)&&(f.nm=="__init__"&&(f != .jZ&&(F3 c es&&mF kd es (gL e).tail))))
 |.vL _,_=>false
 |.comp cN aE xs k it g,e=>wK kd (lJ e) xs&&(Ce (FO (mB (lJ e))) aE xs&&(Fi kd (it.length==1) (hd (jm it (vb k (aG e 2)))) k&&(mF kd it (vb k (aG e 2))&&((jm g (gL e).tail.tail.tail).all qw&&(mF (mB (lJ e)) g (gL e).tail.tail.tail&&wf (mB (lJ e)) cN (aG e 0))))))
 |.sI cN x a y b,e=>wK kd (lJ e) [x,y]&&(Ce (FO (mB (lJ e))) true [x,y]&&(!u9 (bV a (aG e 2))&&(!u9 (bV b (aG e 4))&&(wf kd a (aG e 2)&&(wf (mB (lJ e)) b (aG e 4)&&wf (mB (lJ e)) cN (aG e 0))))))
 |_,_=>true
noncomputable def mF(kd:Kd):List a7->List Expr->Bool
 |[],_=>true
 |x::xs,ps=>fI (bV x (hd ps))&&(wf kd x (hd ps)&&mF kd xs ps.tail)
end
mutual
noncomputable def G4:St->Stmt->Stmt
 |.expr x,s=>.Expr (bV x (cH s 0)) s.pos
 |.bP n x,s=>.Assign [.Name n.S (cH s 1).pos] (bV x (cH s 0)) s.pos
 |.jE xs x,s=>.Assign [.Tuple (yq xs (gL (cH s 1))) (ml (cH s 1)) (cH s 1).pos] (bV x (cH s 0)) s.pos
 |.cV o n x,s=>.Assign [.Attribute (bV o (aG (cH s 1) 0)) n.S (cH s 1).pos] (bV x (cH s 0)) s.pos
 |.fK o i x,s=>.Assign [.Subscript (bV o (aG (cH s 1) 0)) (bV i (aG (cH s 1) 1)) (cH s 1).pos] (bV x (cH s 0)) s.pos
 |.qE o i x,s=>.Assign [.Subscript (bV o (aG (cH s 1) 0)) (bV i (aG (cH s 1) 1)) (cH s 1).pos] (bV x (cH s 0)) s.pos
 |.rX o i j a b,s=>.Assign [.Tuple [.Subscript (bV o (aG (aG (cH s 1) 0) 0)) (bV i (aG (aG (cH s 1) 0) 1)) (aG (cH s 1) 0).pos,.Subscript (bV o (aG (aG (cH s 1) 1) 0)) (bV j (aG (aG (cH s 1) 1) 1)) (aG (cH s 1) 1).pos] (ml (cH s 1)) (cH s 1).pos]
  (.Tuple [bV a (aG (cH s 0) 0),bV b (aG (cH s 0) 1)] (ml (cH s 0)) (cH s 0).pos) s.pos
 |.tK o n m a b,s=>.Assign [.Tuple [.Attribute (bV o (aG (aG (cH s 1) 0) 0)) n.S (aG (cH s 1) 0).pos,.Attribute (bV o (aG (aG (cH s 1) 1) 0)) m.S (aG (cH s 1) 1).pos] (ml (cH s 1)) (cH s 1).pos]
  (.Tuple [bV a (aG (cH s 0) 0),bV b (aG (cH s 0) 1)] (ml (cH s 0)) (cH s 0).pos) s.pos
 |.ite c t e,s=>.If (bV c (cH s 0)) (m5 t (uc s)) (m5 e (Jn s)) s.pos
 |.kY c t,s=>.While (bV c (cH s 0)) (m5 t (uc s)) [] s.pos
 |.for aE xs k it t,s=>.For (GZ aE xs (cH s 0)) (Fh k (jm it (vb k (cH s 1))) (cH s 1)) (m5 t (uc s)) [] s.pos
 |.ret x,s=>.Return (cond (uG s).isEmpty none (some (bV x (cH s 0)))) s.pos
 |.brk,s=>.Break s.pos
 |.cont,s=>.Continue s.pos
 |.n8,s=>s
 |.vs,s=>.Pass s.pos
noncomputable def m5:List St->List Stmt->List Stmt
 |[],_=>[]
 |x::xs,ss=>G4 x (nQ dS ss 0)::m5 xs ss.tail
end
noncomputable def Pa(e:a7):Bool:=e.ctorIdx==0
mutual
noncomputable def Ha(kd:Kd):St->Stmt->Bool
 |.expr x,s=>rQ (bV x (cH s 0))&&wf kd x (cH s 0)
 |.bP n x,s=>lc kd n.S&&((zM x||rQ (bV x (cH s 0)))&&wf kd x (cH s 0))
 |.jE xs x,s=>rQ (bV x (cH s 0))&&(G7 (bV x (cH s 0))&&(xs.all (λn=>lc kd n.S)&&(decide xs.Nodup&&wf kd x (cH s 0))))
 |.cV o _ x,s=>wf kd o (aG (cH s 1) 0)&&wf kd x (cH s 0)
 |.fK o i x,s=>wf kd o (aG (cH s 1) 0)&&(wf kd i (aG (cH s 1) 1)&&wf kd x (cH s 0))
 |.qE o i x,s=>wf kd o (aG (cH s 1) 0)&&(wf kd i (aG (cH s 1) 1)&&wf kd x (cH s 0))
 |.rX o i j a b,s=>fI (bV a (aG (cH s 0) 0))&&(fI (bV b (aG (cH s 0) 1))&&(wf kd o (aG (aG (cH s 1) 0) 0)&&(wf kd i (aG (aG (cH s 1) 0) 1)&&(wf kd o (aG (aG (cH s 1) 1) 0)&&(wf kd j (aG (aG (cH s 1) 1) 1)&&(wf kd a (aG (cH s 0) 0)&&wf kd b (aG (cH s 0) 1)))))))
 |.tK o _ _ a b,s=>fI (bV a (aG (cH s 0) 0))&&(fI (bV b (aG (cH s 0) 1))&&(wf kd o (aG (aG (cH s 1) 0) 0)&&(wf kd o (aG (aG (cH s 1) 1) 0)&&(wf kd a (aG (cH s 0) 0)&&wf kd b (aG (cH s 0) 1)))))
 |.ite c t e,s=>qw (bV c (cH s 0))&&(wf kd c (cH s 0)&&(nT kd t (uc s)&&nT kd e (Jn s)))
 |.kY c t,s=>qw (bV c (cH s 0))&&(wf kd c (cH s 0)&&nT kd t (uc s))
 |.for aE xs k it t,s=>Ce (lc kd) aE xs&&(Fi kd (it.length==1) (hd (jm it (vb k (cH s 1)))) k&&(mF kd it (vb k (cH s 1))&&nT kd t (uc s)))
 |.ret x,s=>cond (uG s).isEmpty (Pa x) (wf kd x (cH s 0))
 |_,_=>true
noncomputable def nT(kd:Kd):List St->List Stmt->Bool
 |[],_=>true
 |x::xs,ss=>Ha kd x (nQ dS ss 0)&&nT kd xs ss.tail
end
noncomputable def zt:List (String×Value):=[("len",.builtin "len"),("abs",.builtin "abs"),("tuple",.type "tuple"),("list",.type "list"),("int",.type "int"),("max",.builtin "max"),("min",.builtin "min"),("range",.type "range"),("sorted",.builtin "sorted"),("super",.type "super")]
noncomputable def jx(f:aJ)(sc:Scope):Kd:=λx=>if x=PS "%lam"then(if f=.ql then some .globalExplicit else none)else sc.names.lookup x
noncomputable def QU(e:Expr):Expr:=.Call (.Attribute (.Call (.Name (PS "super") (aG (aG (aG e 0) 0) 0).pos) [] [] (aG (aG e 0) 0).pos) (PS "__init__") (aG e 0).pos) [.Name (PS "hook") (aG e 1).pos] [] e.pos
noncomputable def QV(s:Stmt):Stmt:=.Expr (QU (cH s 0)) s.pos
noncomputable def zo(xs:List Nm)(as:List Arg):List Arg:=xs.zipWith (λx a=>⟨x.S,a.annotation,a.pos⟩) as
noncomputable def zj(p:aJ->Bool):Bool:=(List.range 83).all λn=>p (aJ.ofNat n)
noncomputable def vp(p:aJ->a):List a:=(List.range 83).map λn=>p (aJ.ofNat n)
noncomputable def nu(K:Frag)(a:Addr):Obj:=(K.lookup a).getD default
noncomputable def Wc(o:Obj):FuncData:=match o.data with
 |.func fd=>fd
 |_=>default
noncomputable def wy(fd:FuncData):List Stmt:=match fd.body with
 |.stmts b=>b
 |_=>[]
noncomputable def oW:Value->Addr
 |.ref a=>a
 |_=>0
noncomputable def yK:Value->Tok
 |.int _ t=>t
 |.str _ t=>t
 |_=>default
noncomputable def B5(o:Obj):Array Value:=match o.data with
 |.seq l _=>l
 |.fields l=>l
 |_=> #[]
noncomputable def Jr(o:Obj):Nat:=match o.data with
 |.seq _ n=>n
 |_=>0
noncomputable def yM(o:Obj)(d:Data):Obj:=⟨o.cls,o.dict,d,o.slots⟩
noncomputable def hU(K:Frag)(f:aJ):FuncData:=Wc (nu K (fi f))
noncomputable def ny(K:Frag)(f:aJ):List Stmt:=wy (hU K f)
noncomputable def s7(b:List Stmt):Stmt:=b.headD (.Pass default)
noncomputable def yG(f:aJ)(b:List Stmt):List Stmt:=cond (f== .dN) (QV (s7 b)::m5 (eQ f).2.tail b.tail) (m5 (eQ f).2 b)
noncomputable def DM(f:aJ)(fd:FuncData):List Expr×Value:=cond (f== .m9) (fd.params.defaults,.ref (oW fd.defaults)) ([],.none)
noncomputable def vq(f:aJ)(fd:FuncData):FuncData:=fnX fd.name fd.qualname ⟨[],zo (eQ f).1 fd.params.args,none,[],[],none,(DM f fd).1⟩ (wy fd) fd.scope fd.closure (DM f fd).2 fd.kwdefaults fd.doc fd.pyModule fd.annotations (.ref (oW fd.code)) fd.closureTuple
noncomputable def Pd(K:Frag)(f:aJ):Option Obj:=some (yM (nu K (fi f)) (.func (vq f (hU K f))))
noncomputable def Wu(K:Frag)(f:aJ)(fd:FuncData):Bool:=(codeIn K (.ref (oW fd.code)) fd.qualname&&nT (jx f fd.scope) (cond (f== .dN) (eQ f).2.tail (eQ f).2) (cond (f== .dN) (wy fd).tail (wy fd)))&&(fd.scope.kind== .function&&(!fd.scope.isCoroutine&&(!fd.scope.isGenerator&&fd.params.args.length==(eQ f).1.length)))
noncomputable def afX(x:PySem.Str):Bool:=(List.range 99).all λn=>(Nm.ofNat n).S !=x
noncomputable def JY(fd:FuncData)(f:aJ):Bool:=(eQ f).1.all (λx=>lc (λy=>fd.scope.names.lookup y) x.S)&&
 ((fd.closure.isEmpty&&fd.scope.names.all λp=>p.2 != .free)||(fd.scope.names.all λp=>p.2 != .cell)&&fd.scope.names.all λp=>p.2 != .free||((fd.closure.lookup p.1).isSome&&afX p.1))
noncomputable def ri(K:Frag)(f:aJ):Bool:=Wu K f (hU K f)&&(f== .dN||JY (hU K f) f)
noncomputable def uW(K:Frag):Addr:=oW (hU K .m9).defaults
noncomputable def NK(K:Frag):Tok:=yK ((B5 (nu K (uW K))).getD 0 .none)
noncomputable def EV(K:Frag):Option Obj:=some (yM (nu K (uW K)) (.seq #[.int gk (NK K)] (Jr (nu K (uW K)))))
noncomputable def Ou(K:Frag):Value×PySem.Str:=((hU K .ql).code,(hU K .ql).qualname)
noncomputable def wF(K:Frag):Addr:=oW (hU K .dN).code
noncomputable def DC(K:Frag):Array Value:=B5 (nu K (wF K))
noncomputable def ue(K:Frag):Addr:=((hU K .dN).closure.headD (PS "",0)).2
noncomputable def Ux(o:Obj):Addr:=match o.data with
 |.cell (some v)=>oW v
 |_=>0
noncomputable def wJ(K:Frag):Addr:=Ux (nu K (ue K))
noncomputable def F_(K:Frag)(x:String):Value:=((nsIn K mainGlobals (PS x)).getD none).getD .none
noncomputable def yB(K:Frag):Addr:=oW (F_ K "RULES")
noncomputable def Ql:List String:=["input","define","ite_term","three","bits","congruence","farkas","branch","divide","cut","resolve"]
noncomputable def GA:List String->List Value->List Value
 |[],_=>[]
 |s::ss,l=>.str (PS s) (yK (l.headD .none))::GA ss l.tail
noncomputable def ahJ(K:Frag):List Value:=GA Ql (B5 (nu K (yB K))).toList
noncomputable def A9(K:Frag):List (Option Obj)×List (List Stmt):=(vp λf=>K.lookup (fi f),vp (ny K))
noncomputable def A_(K:Frag):List (Option Obj)×List (List Stmt):=(vp (Pd K),vp λf=>yG f (ny K f))
noncomputable def x_(K:Frag):Option Obj×Option Obj×Option Obj×Option Obj:=(K.lookup (uW K),K.lookup (wF K),K.lookup (ue K),K.lookup (yB K))
noncomputable def yd(K:Frag):Option Obj×Option Obj×Option Obj×Option Obj:=(EV K,some (yM (nu K (wF K)) (.fields (DC K))),some (yM (nu K (ue K)) (.cell (some (.ref (wJ K))))),some (fV (ahJ K) (Jr (nu K (yB K)))))
noncomputable def yb(K:Frag):(Value×PySem.Str)×List (PySem.Str×Addr)×Option Value×Option (Option Value)×List (Option (Option Value)):=(Ou K,(hU K .dN).closure,(DC K)[2]?,nsIn K mainGlobals (PS "RULES"),uI.map λp=>nsIn K mainGlobals (PS p.1))
noncomputable def ye(K:Frag)(file:PySem.Str):(Value×PySem.Str)×List (PySem.Str×Addr)×Option Value×Option (Option Value)×List (Option (Option Value)):=((.ref oR,PS "_law_clause"),[(PS "__class__",ue K)],some (.str file (yK ((DC K).getD 2 .none))),some (some (.ref (yB K))),uI.map λp=>some (some (.int p.2 (yK (F_ K p.1)))))
noncomputable def aiY(K:Frag):Bool:=(clsIn K (wJ K)).isSome&&(mroIn K 551 (.ref (wJ K))==some true&&ks_superIn K 551 (wJ K) "__init__"==some (some (.ref (fi .jZ))))
noncomputable def ahU(sc:Scope):Bool:=(sc.names.all λp=>p.2 != .cell&&(p.2 != .free||p.1==PS "__class__"))&&(([Nm.X,.dK,.jy].all λx=>sc.names.lookup x.S==some .local)&&(sc.names.lookup (PS "super")==some .globalImplicit&&sc.names.lookup (PS "__class__")==some .free))
noncomputable def N1(K:Frag):Bool:=(rR (cH (s7 (ny K .dN)) 0)&&(ahU (hU K .dN).scope&&aiY K))&&(nsIn K mainGlobals "super"==some none&&(typeIn K (.ref (fi .jZ))==some (.type "function")&&nsIn K cStatics "thirdparty.any"==some none))
noncomputable def Ad(K:Frag)(x:String)(v:Option Value):Bool:=nsIn K mainGlobals (PS x)==some v
noncomputable def UY(K:Frag)(c:Cl):Bool:=Ad K c.nm (some (.ref (gS c)))&&(plainGet K (gS c) (PS "")&&(hasDictIn K (gS c)&&((c.fields.all λx=>findIn K (.ref (gS c)) (PS x)==some none&&takerIn K (gS c) (PS x)==some none)&&(zj λf=>!(f != .jZ&&f.cls.any (Cl.n9 c))||findIn K (.ref (gS c)) (PS f.nm)==some (some (.ref (fi f)))))))
noncomputable def UZ(K:Frag)(c:Cl):Bool:=findIn K (.ref (gS c)) "__setattr__"==some (some (.builtin "object.__setattr__"))&&(plainOver K (gS c)&&(makesIn K (gS c)&&keepIn K (.ref (gS c))))
noncomputable def Wf(K:Frag)(f:aJ):Bool:=(f.cls.isSome||Ad K f.nm (some (.ref (fi f))))&&(isFn K (.ref (fi f))&&(fnIn K (fi f)&&keepIn K (.ref (fi f))))
noncomputable def Wg(K:Frag)(f:aJ):Bool:=specialIn K (.ref (fi f)) "__get__"==some (some (.builtin "function.__get__"))&&takesIn K (.ref (fi f))==some false
noncomputable def zE(K:Frag):Bool:=(zt.all λp=>Ad K p.1 none)&&([Cl.heap,.aO,.cK].all (λc=>UY K c&&UZ K c)&&zj λf=>Wf K f&&Wg K f)
noncomputable def Cf(S:SharedT->Thread->Option (SharedT×Thread))(a:Nat)(b:Option Value):Nat->SharedT->Thread->Option SharedT
 |0,_,_=>none
 |n+1,s,t=>cond (through t) (some s) (cond (stepOk a b t) ((S s t).bind λr=>Cf S a b n r.1 r.2) none)
noncomputable def zA:List Obj->Nat->BT->BT
 |[],_,t=>t
 |o::l,n,t=>zA l (n+1) (t.ins n o)
noncomputable def wA:List Obj->Nat->BT->Bool
 |[],_,_=>true
 |o::l,n,t=>((t.ins n o).get n).isSome&&wA l (n+1) (t.ins n o)
noncomputable def Dw(P:Params):BT:=zA (boot_heap P).objs.toList 0 .nil
noncomputable abbrev pg:Program:=PySem.Challenge.pw_no0025_01
noncomputable def qv:Program:=view pg [0,2,3,5,6,7,8,9,10,11,12,13,14,15,16,18,20,21,22,23,24,25,27,28,29,30,31,32,33,34,35,36,37]
noncomputable def zS(t:SharedT):=Fast.tw4187177175401517315 qv [] (importedModules pg.main.body) (λY=>true) true t.abs
noncomputable def F6(o:Obj):Bool:=match o.cls,o.data with
 |.none,.fields _=>false
 |_,_=>true
noncomputable def ahW(T:BT)(a:Addr):Option (Addr×Obj):=((T.get a).bind alive).bind λo=>cond (F6 o) (some (a,o)) none
noncomputable def i_(t:SharedT):Frag:=(List.range t.n).filterMap (ahW t.tree)
noncomputable def kB(K:Frag):Bool:=tabIn K "_law_clause"==some (oR,gG)&&N1 K
noncomputable def mS(w:World)(os:OsState):Option SharedT:=Cf (Fast.tw10156331382660048174 (Fast.tw11892475500146522536 Fast.tw14364793385576792824) pg w) 11 (some (.ref 6)) 4400 ⟨Dw w.params,11,{},Array.mk [],boot_drawn,boot_toks,os⟩ (topStub pg)
noncomputable abbrev yC:RowW:=PySem.Challenge.rw_no0025_01.row.toRowW
theorem ac8:∀P,wA (boot_heap P).objs.toList 0 .nil=true:=λP=>by kernel_rfl
theorem adl:∀w:World,((boot_heap w.params).isNs mainGlobals&&(Array.mk []:Array GenState).size==0,(boot_heap w.params).objs.size,(boot_heap w.params).nsMap mainGlobals "__annotations__")=(true,11,some (.ref 6)):=λw=>by kernel_rfl
theorem ac9:opening pg=plainProg pg.main.scope.names:=by kernel_rfl
theorem ac3:∀s,fenceModules? pg s=some s:=λs=>by kernel_rfl
theorem ac7:Fast.tw8377067652309620493 (Fast.tw2368527892694137696 PySem.Challenge.rw_no0025_01).prog=true:=by kernel_rfl
theorem adj:Fast.tw17960256430627541270 (Fast.tw2368527892694137696 PySem.Challenge.rw_no0025_01)=true:=by
 delta PySem.W.Fast.tw17960256430627541270 PySem.W.Fast.tw2436336058641802641 PySem.W.Fast.tw12908688711261696721
 dsimp only;rw[ac7]
 kernel_rfl
theorem Nq:PySem.Challenge.rw_no0025_01.wellSaid=true:=by
 rw[Fast.te9446332074065402090]
 delta PySem.W.Fast.tw9446332074065402090
 rw[adj]
 kernel_rfl
theorem ac5:((recsOf qv).find? λe=>e.name==PS "_law_clause").isSome=true:=by kernel_rfl
theorem adk:(pg.main.scope.names.lookup (PS "super")).isSome=false:=by kernel_rfl
theorem ac2:pg.bare:=⟨rfl,rfl,rfl,rfl,rfl,by decide+kernel⟩
theorem adi:(defOf qv (PS "law")).isSome=true:=by kernel_rfl
noncomputable def dL:DefRec:=((defOf qv (PS "law")).get adi).1
theorem Np:defOf qv (PS "law")=some (dL,[]):=by kernel_rfl
theorem adm:pg.theDef (PS "law")=some (dL.params,dL.body,dL.scope):=by kernel_rfl
theorem ac4:kwWritten? dL.params.kwonlyargs dL.params.kw_defaults=some []:=by kernel_rfl
theorem ac1:(chainsOk qv&&opensWell pg&&(frees yC&&yC.within.isEmpty))=true:=by kernel_rfl
theorem ac':yC.promised:=⟨[.list []],by decide+kernel,by decide+kernel⟩
theorem ada:∀(w:World) (os:OsState),(mS w os).map (λt=>(staticsOk (importedModules pg.main.body) (boot_heap w.params) t.abs.heap&&namesBound pg t.abs.heap&&gensDone t.abs&&laidKept (boot_heap w.params) t.abs.heap,(zS t).1,(zS t).2.1,(zS t).2.2.1))=some (true,expectedOf qv,bltViewBooted,true):=λw os=>by kernel_rfl
theorem adb:∀(w:World) (os:OsState),(mS w os).map (λt=>(zE (i_ t),kB (i_ t),(zS t).2.2.2.2.2.2.2.1))=some (true,true,wideGood qv):=λw os=>by kernel_rfl
theorem ade:∀(w:World) (os:OsState),(mS w os).map (λt=>((List.range 50).all λn=>ri (i_ t) (aJ.ofNat n),(zS t).2.2.2.2.2.2.1))=some (true,plainGoodD qv []):=λw os=>by kernel_rfl
theorem adf:∀(w:World) (os:OsState),(mS w os).map (λt=>((zS t).2.2.2.1,A9 (i_ t),x_ (i_ t),yb (i_ t)))=(mS w os).map λt=>(true,A_ (i_ t),yd (i_ t),ye (i_ t) pg.main.file):=λw os=>by kernel_rfl
theorem adg:∀(w:World) (os:OsState),(mS w os).map (λt=>((zS t).2.2.2.2.1,(zS t).2.2.2.2.2.1))=some (pinGoodD (drecsOf qv),plainGoodE qv (looseW qv [])):=λw os=>by kernel_rfl
theorem adh:∀(w:World) (os:OsState),(mS w os).map (λt=>((List.range' 50 33).all λn=>ri (i_ t) (aJ.ofNat n),(zS t).2.2.2.2.2.2.2.2))=some (true,clsGoodW qv []):=λw os=>by kernel_rfl
end
def iI:=@List.all_eq_true
def dQ:=@of_decide_eq_true
def aP:=@congrArg
def cL:=@List.mem_singleton
def cO:=@decide_eq_true
def g9:=@Int.ofNat_lt
def bE:=@List.mem_cons_self
def dH:=@Option.some.inj
def aV:=@Nat.le_trans
def lT:=@Bool.not_eq_true'
def cP:=@List.mem_cons_of_mem
def gh:=@List.not_mem_nil
def dR:=@Nat.le_refl
def df:=@Nat.lt_of_le_of_lt
def iV:=@Nat.lt_of_sub_pos
def bt:=@Nat.le_of_ble_eq_true
def c9:=@Nat.le_of_lt
def cx:=@List.length_append
def cY:=@Classical.em
def bA:=@if_pos
def bx:=@if_neg
def fQ:=@List.append_nil
def iW:=@List.mem_append_right
def iX:=@List.append_assoc
def lO:=@List.mem_append_left
def jB:=@List.nodup_append
def lP:=@List.length_filter_le
def jK:=@Nat.le_add_right
def dp:=@decide_eq_false
def gH:=@Bool.false_ne_true
def dT:=@List.mem_append
def jo:=@List.mem_singleton_self
def b9:=@List.length_map
def iJ:=@List.map_append
def gZ:=@of_decide_eq_false
def jC:=@Bool.and_eq_true
def cQ:=@Ne.symm
def cW:=@List.mem_map
def fk:=@List.map_map
def dU:=@List.mem_filter
def jX:=@Classical.byContradiction
def jb:=@List.nodup_cons
def g8:=@Int.le_refl
def fE:=@Int.natCast_nonneg
def mG:=@List.any_eq_true
def fw:=@Nat.zero_le
def dZ:=@List.getElem?_eq_getElem
def k5:=@Nat.lt_succ_self
def j_:=@Nat.lt_of_lt_of_le
def dW:=@List.mem_cons
def fR:=@List.getElem?_eq_some_iff
def fp:=@Int.le_trans
def k6:=@decide_eq_true_iff
def k7:=@List.length_nil
def mH:=@List.length_range
def k8:=@List.map_congr_left
def lQ:=@List.length_cons
def jq:=@List.mem_of_getElem?
def lR:=@List.getElem?_append_left
def lS:=@List.getElem?_append_right
def h_:=@Int.neg_neg
def gN:=@List.size_toArray
def k9:=@List.length_take
def ow:=@Bool.and_eq_true_iff
theorem gn(h:¬¬G):G:=jX h
theorem fF(h0:a)(b:c):a/\c:=⟨h0,b⟩
theorem cR{a:Type}{b:a->Prop}(x0:a)(h0:b x0):∃x0,b x0:=⟨x0,h0⟩
theorem aS(h0:a)(b:c)(d:e):a/\c/\e:=⟨h0,b,d⟩
theorem cE{b c:Type}{d:b->c->Prop}(x0:b)(a:c)(h0:d x0 a):∃x0,∃a,d x0 a:=⟨x0,a,h0⟩
theorem cg(h0:a)(b:c)(d:e)(f:P3):a/\c/\e/\P3:=⟨h0,b,d,f⟩
theorem d_{c d e:Type}{f:c->d->e->Prop}(x0:c)(a:d)(b:e)(h0:f x0 a b):∃x0,∃a,∃b,f x0 a b:=⟨x0,a,b,h0⟩
theorem e_(h0:a)(b:c)(d:e)(f:P3)(g:h):a/\c/\e/\P3/\h:=⟨h0,b,d,f,g⟩
theorem fh{d e f g:Type}{h:d->e->f->g->Prop}(x0:d)(a:e)(b:f)(c:g)(h0:h x0 a b c):∃x0,∃a,∃b,∃c,h x0 a b c:=⟨x0,a,b,c,h0⟩
theorem ee(h0:a)(b:c)(d:e)(f:P3)(g:h)(i:j):a/\c/\e/\P3/\h/\j:=⟨h0,b,d,f,g,i⟩
theorem mM{e f g h i:Type}{j:e->f->g->h->i->Prop}(x0:e)(a:f)(b:g)(c:h)(d:i)(h0:j x0 a b c d):∃x0,∃a,∃b,∃c,∃d,j x0 a b c d:=⟨x0,a,b,c,d,h0⟩
theorem oy(h0:a)(b:c)(d:e)(f:P3)(g:h)(i:j)(k:l):a/\c/\e/\P3/\h/\j/\l:=⟨h0,b,d,f,g,i,k⟩
theorem o8(h0:a)(b:c)(d:e)(f:P3)(g:h)(i:j)(k:l)(m:n):a/\c/\e/\P3/\h/\j/\l/\n:=⟨h0,b,d,f,g,i,k,m⟩
theorem CF(h0:a)(b:c)(d:e)(f:P3)(g:h)(i:j)(k:l)(m:n)(o:p):a/\c/\e/\P3/\h/\j/\l/\n/\p:=⟨h0,b,d,f,g,i,k,m,o⟩
theorem yV(h0:a)(b:c)(d:e)(f:P3)(g:h)(i:j)(k:l)(m:n)(o:p)(q:r):a/\c/\e/\P3/\h/\j/\l/\n/\p/\r:=⟨h0,b,d,f,g,i,k,m,o,q⟩
theorem qQ(h0:a)(b:c)(d:e)(f:P3)(g:h)(i:j)(k:l)(m:n)(o:p)(q:r)(s:t):a/\c/\e/\P3/\h/\j/\l/\n/\p/\r/\t:=⟨h0,b,d,f,g,i,k,m,o,q,s⟩
theorem RC(h0:a)(b:c)(d:e)(f:P3)(g:h)(i:j)(k:l)(m:n)(o:p)(q:r)(s:t)(u:v)(w:x):a/\c/\e/\P3/\h/\j/\l/\n/\p/\r/\t/\v/\x:=⟨h0,b,d,f,g,i,k,m,o,q,s,u,w⟩
theorem aU{R:Prop}(h:a/\b)(k:a->b->R):R:=k h.1 h.2
theorem az{b:Type}{a:b->Prop}{R:Prop}(h:∃x0,a x0)(k:∀x0,a x0->R):R:=h.elim λx0 h0=>k x0 h0
theorem br{R:Prop}(h:a/\b/\c)(k:a->b->c->R):R:=k h.1 h.2.1 h.2.2
theorem cF{c d:Type}{b:c->d->Prop}{R:Prop}(h:∃x0,∃a,b x0 a)(k:∀x0,∀a,b x0 a->R):R:=h.elim λx0 h0=>h0.elim λa e=>k x0 a e
theorem eI{R:Prop}(h:a/\b/\c/\P3)(k:a->b->c->P3->R):R:=k h.1 h.2.1 h.2.2.1 h.2.2.2
theorem d7{d e f:Type}{c:d->e->f->Prop}{R:Prop}(h:∃x0,∃a,∃b,c x0 a b)(k:∀x0,∀a,∀b,c x0 a b->R):R:=h.elim λx0 h0=>h0.elim λa g=>g.elim λb i=>k x0 a b i
theorem eY{R:Prop}(h:a/\b/\c/\P3/\d)(k:a->b->c->P3->d->R):R:=k h.1 h.2.1 h.2.2.1 h.2.2.2.1 h.2.2.2.2
theorem gz{e f g i:Type}{d:e->f->g->i->Prop}{R:Prop}(h:∃x0,∃a,∃b,∃c,d x0 a b c)(k:∀x0,∀a,∀b,∀c,d x0 a b c->R):R:=h.elim λx0 h0=>h0.elim λa j=>j.elim λb l=>l.elim λc m=>k x0 a b c m
theorem iM{R:Prop}(h:a/\b/\c/\P3/\d/\e)(k:a->b->c->P3->d->e->R):R:=k h.1 h.2.1 h.2.2.1 h.2.2.2.1 h.2.2.2.2.1 h.2.2.2.2.2
theorem jD{f g i j l:Type}{e:f->g->i->j->l->Prop}{R:Prop}(h:∃x0,∃a,∃b,∃c,∃d,e x0 a b c d)(k:∀x0,∀a,∀b,∀c,∀d,e x0 a b c d->R):R:=h.elim λx0 h0=>h0.elim λa m=>m.elim λb n=>n.elim λc o=>o.elim λd p=>k x0 a b c d p
theorem vY{R:Prop}(h:a/\b/\c/\P3/\d/\e/\f)(k:a->b->c->P3->d->e->f->R):R:=k h.1 h.2.1 h.2.2.1 h.2.2.2.1 h.2.2.2.2.1 h.2.2.2.2.2.1 h.2.2.2.2.2.2
theorem tY{R:Prop}(h:a/\b/\c/\P3/\d/\e/\f/\g)(k:a->b->c->P3->d->e->f->g->R):R:=k h.1 h.2.1 h.2.2.1 h.2.2.2.1 h.2.2.2.2.1 h.2.2.2.2.2.1 h.2.2.2.2.2.2.1 h.2.2.2.2.2.2.2
theorem Hm{R:Prop}(h:a/\b/\c/\P3/\d/\e/\f/\g/\i)(k:a->b->c->P3->d->e->f->g->i->R):R:=k h.1 h.2.1 h.2.2.1 h.2.2.2.1 h.2.2.2.2.1 h.2.2.2.2.2.1 h.2.2.2.2.2.2.1 h.2.2.2.2.2.2.2.1 h.2.2.2.2.2.2.2.2
theorem yW{R:Prop}(h:a/\b/\c/\P3/\d/\e/\f/\g/\i/\j)(k:a->b->c->P3->d->e->f->g->i->j->R):R:=k h.1 h.2.1 h.2.2.1 h.2.2.2.1 h.2.2.2.2.1 h.2.2.2.2.2.1 h.2.2.2.2.2.2.1 h.2.2.2.2.2.2.2.1 h.2.2.2.2.2.2.2.2.1 h.2.2.2.2.2.2.2.2.2
theorem o_{R:Prop}(h:a/\b/\c/\P3/\d/\e/\f/\g/\i/\j/\l)(k:a->b->c->P3->d->e->f->g->i->j->l->R):R:=k h.1 h.2.1 h.2.2.1 h.2.2.2.1 h.2.2.2.2.1 h.2.2.2.2.2.1 h.2.2.2.2.2.2.1 h.2.2.2.2.2.2.2.1 h.2.2.2.2.2.2.2.2.1 h.2.2.2.2.2.2.2.2.2.1 h.2.2.2.2.2.2.2.2.2.2
theorem nf{P:Prop}(h:false=true):P:=Bool.noConfusion h
theorem nt{P:Prop}(h:true=false):P:=Bool.noConfusion h
theorem nn{b:Type}{a:b}{P:Prop}(h:none=some a):P:=nomatch h
theorem ns{b:Type}{a:b}{P:Prop}(h:some a=none):P:=nomatch h
theorem so{c:Type}{a b:c}{R:Prop}(h:some a=some b)(k:a=b->R):R:=k (dH h)
theorem dx(p:Prop){R:Prop}(a:p->R)(b:¬p->R):R:=(cY p).elim a b
@[elab_as_elim]theorem B {P:c->Prop} (h:a=b) (e:P b):P a:=h▸e
@[elab_as_elim]theorem aT {P:c->Prop} (h:a=b) (e:P a):P b:=h▸e
inductive Q2(a b:Prop):Prop|mk (Y:a) (Y:b):Q2 a b
inductive Q3(a b c:Prop):Prop|mk (Y:a) (Y:b) (Y:c):Q3 a b c
inductive Q4(a b c d:Prop):Prop|mk (Y:a) (Y:b) (Y:c) (Y:d):Q4 a b c d
inductive Q5(a b c d e:Prop):Prop|mk (Y:a) (Y:b) (Y:c) (Y:d) (Y:e):Q5 a b c d e
inductive Q6(a b c d e f:Prop):Prop|mk (Y:a) (Y:b) (Y:c) (Y:d) (Y:e) (Y:f):Q6 a b c d e f
inductive Q7(a b c d e f g:Prop):Prop|mk (Y:a) (Y:b) (Y:c) (Y:d) (Y:e) (Y:f) (Y:g):Q7 a b c d e f g
inductive Q8(a b c d e f g h:Prop):Prop|mk (Y:a) (Y:b) (Y:c) (Y:d) (Y:e) (Y:f) (Y:g) (Y:h):Q8 a b c d e f g h
inductive Q9(a b c d e f g h i:Prop):Prop|mk (Y:a) (Y:b) (Y:c) (Y:d) (Y:e) (Y:f) (Y:g) (Y:h) (Y:i):Q9 a b c d e f g h i
inductive yY(a b c d e f g h i j:Prop):Prop|mk (Y:a) (Y:b) (Y:c) (Y:d) (Y:e) (Y:f) (Y:g) (Y:h) (Y:i) (Y:j):yY a b c d e f g h i j
inductive yZ(a b c d e f g h i j k:Prop):Prop|mk (Y:a) (Y:b) (Y:c) (Y:d) (Y:e) (Y:f) (Y:g) (Y:h) (Y:i) (Y:j) (Y:k):yZ a b c d e f g h i j k
inductive y0(a b c d e f g h i j k l:Prop):Prop|mk (Y:a) (Y:b) (Y:c) (Y:d) (Y:e) (Y:f) (Y:g) (Y:h) (Y:i) (Y:j) (Y:k) (Y:l):y0 a b c d e f g h i j k l
inductive CL(a b c d e f g h i j k l m:Prop):Prop|mk (Y:a) (Y:b) (Y:c) (Y:d) (Y:e) (Y:f) (Y:g) (Y:h) (Y:i) (Y:j) (Y:k) (Y:l) (Y:m):CL a b c d e f g h i j k l m
inductive CM(a b c d e f g h i j k l m n:Prop):Prop|mk (Y:a) (Y:b) (Y:c) (Y:d) (Y:e) (Y:f) (Y:g) (Y:h) (Y:i) (Y:j) (Y:k) (Y:l) (Y:m) (Y:n):CM a b c d e f g h i j k l m n
inductive y7(a b c d e f g h i j k l m n o:Prop):Prop|mk (Y:a) (Y:b) (Y:c) (Y:d) (Y:e) (Y:f) (Y:g) (Y:h) (Y:i) (Y:j) (Y:k) (Y:l) (Y:m) (Y:n) (Y:o):y7 a b c d e f g h i j k l m n o
inductive Hs(a b c d e f g h i j k l m n o p:Prop):Prop|mk (Y:a) (Y:b) (Y:c) (Y:d) (Y:e) (Y:f) (Y:g) (Y:h) (Y:i) (Y:j) (Y:k) (Y:l) (Y:m) (Y:n) (Y:o) (Y:p):Hs a b c d e f g h i j k l m n o p
inductive Ht(a b c d e f g h i j k l m n o p q:Prop):Prop|mk (Y:a) (Y:b) (Y:c) (Y:d) (Y:e) (Y:f) (Y:g) (Y:h) (Y:i) (Y:j) (Y:k) (Y:l) (Y:m) (Y:n) (Y:o) (Y:p) (Y:q):Ht a b c d e f g h i j k l m n o p q
inductive Hu(a b c d e f g h i j k l m n o p q r s:Prop):Prop|mk (Y:a) (Y:b) (Y:c) (Y:d) (Y:e) (Y:f) (Y:g) (Y:h) (Y:i) (Y:j) (Y:k) (Y:l) (Y:m) (Y:n) (Y:o) (Y:p) (Y:q) (Y:r) (Y:s):Hu a b c d e f g h i j k l m n o p q r s
theorem L0{a:Type}{l:List a}{P:List a->Prop}(h:l.length=0)(k:P []):P l:=by
 cases l with
 |nil=>exact k
 |cons=>injection h
theorem Lc{b:Type}{l:List b}{P:List b->Prop}{n:Nat}(h:l.length=n+1)(k:∀a t,t.length=n->P (a::t)):P l:=by
 cases l with
 |nil=>injection h
 |cons a t=>exact k a t (Nat.succ.inj h)
@[elab_as_elim]theorem L1 {b:Type} {l:List b} {P:List b->Prop} (h:l.length=1) (k:∀a,P [a]):P l:=Lc h λa t h=>L0 (P:=λt=>P (a::t)) h (k a)
@[elab_as_elim]theorem L2 {c:Type} {l:List c} {P:List c->Prop} (h:l.length=2) (k:∀a b,P [a,b]):P l:=Lc h λa t h=>L1 h (k a)
@[elab_as_elim]theorem L3 {d:Type} {l:List d} {P:List d->Prop} (h:l.length=3) (k:∀a b c,P [a,b,c]):P l:=Lc h λa t h=>L2 h (k a)
@[elab_as_elim]theorem L4 {e:Type} {l:List e} {P:List e->Prop} (h:l.length=4) (k:∀a b c d,P [a,b,c,d]):P l:=Lc h λa t h=>L3 h (k a)
@[elab_as_elim]theorem L5 {f:Type} {l:List f} {P:List f->Prop} (h:l.length=5) (k:∀a b c d e,P [a,b,c,d,e]):P l:=Lc h λa t h=>L4 h (k a)
noncomputable def aA:Nat->Cx
 |0=>λY Y Y Y=>False
 |k+1=>λf E A Q=>∃l,ik (eQ f).1 E (λY=>.none)=some l/\Ss (aA k) (eQ f).2 l A λfl Y A=>Q fl.val A
theorem Ur{k f E A Q}:aA (k+1) f E A Q=∃l,ik (eQ f).1 E (λY=>.none)=some l/\Ss (aA k) (eQ f).2 l A λfl Y A=>Q fl.val A:=rfl
section
open PySem PySem.W PySem.Calls PyProof.Rows
section
def cD:=@PySem.wpAny_bind
def dX:=@PySem.wpAny_pure
def mJ:=@PySem.Heap.get?_push_size
noncomputable def Bg:Pos:=⟨700,35,700,55⟩
noncomputable def FA:PySem.Str:=PySem.Str.ofString "_law_clause"++PySem.Str.ofString ".<locals>."
noncomputable def tj:PySem.Str:=FA++PySem.Str.ofString "<lambda>"
noncomputable abbrev eT(aj:List Value)(n:Nat):Obj:=seqObj "list" aj.toArray n
structure Gd where
 prog:Program
 w:World
 K:Frag
 ar:List (Addr×Obj)
 p:Program
 loose:List Str
 mg:Str->Option Value
 mb:Str->Option Value
 gB:Heap
 OX:ExcName->Option Value
 T:Top p loose OX mg mb gB
 a7:K.In gB
 arg:∀p∈ar,gB.get? p.1=some p.2
 vo:gB.NoLimit
 mn:CodeHd gB oR gG
 bmain:gB.BuiltinsAt mg gG
section
variable(g:Gd)(h:Heap)
mutual
inductive bH:V->Value->Prop
 |none:bH .none .none
 |bool (b:Bool):bH (.bool b) (.bool b)
 |int (i:Int) (t:Tok):bH (.int i) (.int i t)
 |str (s:String) (t:Tok):bH (.str s) (.str (PySem.Str.ofString s) t)
 |ref (a:Addr):bH (.ref a) (.ref a)
 |aE (a:Addr) (E:List V) (aj:List Value) (n:Nat):aj.length<=16777216->h.get? a=some (fV aj n)->bX E aj->bH (.aE E) (.ref a)
 |args (a:Addr) (xs:List Int) (aj:List Value) (n:Nat):(a,eT aj n)∈g.ar->bX (xs.map .int) aj->bH (.args xs) (.ref a)
inductive bX:List V->List Value->Prop
 |nil:bX [] []
 |cons (v:V) (cv:Value) (E:List V) (aj:List Value):bH v cv->bX E aj->bX (v::E) (cv::aj)
end
inductive m_:List (Nm×V)->List DictEntry->Prop
 |nil:m_ [] []
 |cons (n:Nm) (v:V) (i:Int) (t:Tok) (cv:Value) (aF:List (Nm×V)) (es:List DictEntry):bH g h v cv->m_ aF es->m_ ((n,v)::aF) (⟨i,.str n.S t,cv⟩::es)
inductive kc{K:Type}:List (K×V)->List (K×Value)->Prop
 |nil:kc [] []
 |cons (k:K) (v:V) (cv:Value) (aF:List (K×V)) (es:List (K×Value)):bH g h v cv->kc aF es->kc ((k,v)::aF) ((k,cv)::es)
noncomputable def pZ(es:List (String×Value)):List (PySem.Str×Value):=es.map λp=>(PySem.Str.ofString p.1,p.2)
inductive jd:bN->Obj->Prop
 |list (E:List V) (aj:List Value) (n:Nat):bX g h E aj->jd (.list E) (eT aj n)
 |dB (c:Cl) (d:Nat):jd (.dB c d) (instObj (gS c) d)
 |cM (c:Cl) (aF:List (Nm×V)) (es:List DictEntry) (n:Nat):m_ g h aF es->(∀p∈aF,c.has p.1=true)->jd (.cM c aF) (dictOf es n)
 |kg (aF:List (String×V)) (es:List (String×Value)) (o:Obj):o.IsDictOf (strKind g.prog g.w) (pZ es)->kc g h aF es->jd (.kg aF) o
 |fN (aF:List (Int×V)) (es:List (Int×Value)) (o:Obj):o.IsDictOf (intKind g.prog g.w) es->kc g h aF es->jd (.fN aF) o
 |GW:jd (.tab none) (tabObj #[])
 |tab (c:Nat):jd (.tab (some c)) (tabObj #[rawInt Bg.line,rawInt Bg.col,.ref c])
 |code (o:Obj) (E:Array Value) (t:Tok):o.isFreed=false->o.data=.fields E->E[1]? =some (.str tj t)->jd .code o
end
def TL(h b:Heap):Prop:=∀a aj n,h.get? a=some (fV aj n)->b.get? a=some (fV aj n)
theorem TL.refl:TL h h:=λY Y Y e=>e
theorem TL.trans(a:TL h c)(b:TL c d):TL h d:=λx y z e=>b x y z (a x y z e)
theorem bH.b_(t:TL h f)(r:bH g h v k):bH g f v k:=
 r.rec .none .bool .int .str .ref (λa E aj n l e Y i=>.aE a E aj n l (t _ _ _ e) i) (λa xs aj n m Y i=>.args a xs aj n m i) .nil λa b c d Y Y i j=>.cons a b c d i j
theorem bX.b_(t:TL h f)(r:bX g h v k):bX g f v k:=
 r.rec .none .bool .int .str .ref (λa E aj n l e Y i=>.aE a E aj n l (t _ _ _ e) i) (λa xs aj n m Y i=>.args a xs aj n m i) .nil λa b c d Y Y i j=>.cons a b c d i j
theorem m_.b_(t:TL h b){aF es}(r:m_ g h aF es):m_ g b aF es:=r.rec .nil λn v i J c aF es a Y j=>.cons n v i J c aF es (a.b_ t) j
theorem kc.b_{g:Gd}{h b:Heap}{K:Type}(t:TL h b){aF:List (K×V)}{es:List (K×Value)}(r:kc g h aF es):kc g b aF es:=r.rec .nil λk v c aF es a Y j=>.cons k v c aF es (a.b_ t) j
theorem jd.b_(t:TL h a){o co}(r:jd g h o co):jd g a o co:=
 r.rec (λE aj n r=>.list E aj n (r.b_ t)) .dB (λc aF es n r e=>.cM c aF es n (r.b_ t) e) (λaF es o e r=>.kg aF es o e (r.b_ t)) (λaF es o e r=>.fN aF es o e (r.b_ t)) .GW .tab .code
theorem zR{K:Type}[DecidableEq K]{knd:KeyKind prog w K}{o:Obj}{aF:List (K×Value)}(h:o.IsDictOf knd aF):o.isFreed=false/\∃es e,o.data=.dict es e:=by
 refine cF h λes e f=>br f λY hd Y=>?_;clear f;try clear h
 exact(fF (by obtain⟨a,b,c,d⟩:=o;subst hd;rfl) (cE es e hd))
theorem jd.free{o co}(r:jd g h o co):co.isFreed=false/\∀aj n,co≠fV aj n:=by
 haveI nt:∀{o:Obj} {c:String},o.cls=.type c->c≠"tuple"->∀aj n,o≠fV aj n:=λe n Y Y q=>n (Value.type.inj (e.symm.trans (aP Obj.cls q)));haveI nd:∀{o:Obj},(∃es a,o.data=.dict es a)->∀aj n,o≠fV aj n:=λb Y Y q=>cF b λY Y e=>by rw[q]at e;injection e
 cases r with
 |list=>exact⟨rfl,nt rfl (by decide)⟩
 |dB=>exact⟨rfl,λY Y q=>by cases q⟩
 |cM=>exact⟨rfl,nt rfl (by decide)⟩
 |kg _ _ _ e=>exact⟨(zR e).1,nd (zR e).2⟩
 |fN _ _ _ e=>exact⟨(zR e).1,nd (zR e).2⟩
 |GW=>exact⟨rfl,λY Y q=>by cases q⟩
 |tab=>exact⟨rfl,λY Y q=>by cases q⟩
 |code _ _ _ e d=>exact⟨e,λY Y q=>by rw[q]at d;injection d⟩
structure bQ(g:Gd)where
 av:Env
 ae:Addr
 G:Addr->Option Obj
 s0:Shared
 dM:∀b o,g.gB.get? b=some o->G b=some o
 gl:G ae=none
 above:g.gB.objs.size<=ae
 kind:av.scope.kind=.function
 qg:av.globals=mainGlobals
 ud:av.builtins=builtinsNs
structure Lq where
 m0:Str->Option Value
 mu:Addr->Option Obj
 bK:aH
noncomputable def dF{c:Type}(f:Nat->Option c)(a:Nat)(x:Option c):Nat->Option c:=λb=>if b=a then x else f b
theorem fC{b:Type}{f:Nat->Option b}{a:Nat}{x:Option b}:dF f a x a=x:=bA rfl
theorem dA{c:Type}{f:Nat->Option c}{a b:Nat}{x:Option c}(h:b≠a):dF f a x b=f b:=bx h
theorem BO{c:Type}{f:Nat->Option c}{a:Nat}{x:Option c}(P:Nat->Option c->Prop)(d:P a x)(e:∀b,b≠a->P b (f b))(b:Nat):P b (dF f a x b):=by
 by_cases q:b=a
 .rw[q,fC];exact d
 .exact B (dA q) (e b q)
theorem nP{c:Type}{f:Nat->Option c}{a:Nat}{x:Option c}(h:f a=x):dF f a x=f:=funext λb=>BO (P:=λb y=>y=f b) h.symm (λY Y=>rfl) b
def sq(h:Heap)(L:bQ g)(mu:Addr->Option Obj)(m:Str->Option Value)(x:Nm)(v:V):Prop:=Q2
 (L.av.kindOf x.S=some .local->∃a,m x.S=some a/\bH g h v a)
 (L.av.kindOf x.S=some .cell\/L.av.kindOf x.S=some .free->∃c o a,L.av.cells.lookup x.S=some c/\(mu c=some o\/L.G c=some o)/\o.data=.cell (some a)/\bH g h v a)
def iY(o:Obj):Prop:=(∀c,o.data≠.cell c)/\∀es a,o.data≠.dict es a
inductive iA{g:Gd}(h:Heap)(L:bQ g)(q:Lq):Prop
 |ja:L.av.locals=L.ae->(∀x v,q.bK x=some v->sq h L q.mu q.m0 x v)->iA h L q
 |lZ (oC:Obj) (m:Str->Option Value):q.mu L.av.locals=some oC->LCg.NsObj oC m->(∀x v,q.bK x=some v->sq h L q.mu m x v)->iA h L q
def aN(L:bQ g)(q:Lq)(A:H)(s:Shared):Prop:=Q8
 (s={L.s0 with heap:=s.heap,toks:=s.toks})
 (∀b o,L.G b=some o->s.heap.get? b=some o)
 (s.heap.Ns L.ae q.m0)
 (iA s.heap L q)
 (∀a o,A a=some o->∃co,s.heap.get? a=some co/\jd g s.heap o co)
 (∀a o,A a=some o->L.G a=none/\a≠L.ae/\q.mu a=none)
 (∀a o,q.mu a=some o->s.heap.get? a=some o/\a≠L.ae/\L.G a=none)
 (∀a aF,A a=some (.fN aF)->(a==sysModules)=false)
theorem aN.kn{L:bQ g}(S:aN L q A s):g.K.In s.heap:=g.a7.keeps λb o e=>S.2 b o (L.dM b o e)
theorem aN.T{L:bQ g}(S:aN L q A s):TopRead g.p g.loose g.mg g.mb s.heap:=(topRead_of g.T).keeps λb o e=>S.2 b o (L.dM b o e)
theorem aN.fr{L:bQ g}(S:aN L q A s):Fr g.gB L.ae s.heap q.m0:=⟨S.3,λb o e=>S.2 b o (L.dM b o e),L.above⟩
theorem sq.kf(a:sq h L mu m x v)(t:TL h d)(hm:∀c o b,mu c=some o->o.data=.cell (some b)->b8 c=some o):sq d L b8 m x v:=
 ⟨λk=>az (a.1 k) λb z=>⟨b,z.1,z.2.b_ t⟩,λk=>d7 (a.2 k) λc o b z=>d_ c o b (cg z.1 (z.2.1.imp (λe=>hm c o b e z.2.2.1) id) z.2.2.1 (z.2.2.2.b_ t))⟩
theorem iA.kf(r:iA h L q)(t:TL h i)(hm:∀c o,q.mu c=some o->iY o\/b8 c=some o):iA i L {q with mu:=b8}:=by
 have b:∀c o g,q.mu c=some o->o.data=.cell (some g)->b8 c=some o:=λc o g e d=>(hm c o e).resolve_left λf=>f.1 _ d;cases r with
 |ja e a=>exact .ja e λx v l=>(a x v l).kf t b
 |lZ j m e n a=>exact .lZ j m ((hm _ _ e).resolve_left λf=>cF n λes k z=>f.2 es k z.1) n λx v l=>(a x v l).kf t b
theorem aN.tl(S:aN L q A s)(k:∀b x,b≠d->b≠L.ae->s.heap.get? b=some x->f.get? b=some x)(it:∀aj n,s.heap.get? d≠some (fV aj n)):TL s.heap f:=λa aj n e=>
 k a _ (λz=>it aj n (aT z e)) (λz=>by
  refine d7 S.3 λo es i c=>br c λg h Y=>?_;clear c;rw[z,g]at e;injection e with e;subst e;injection h) e
theorem aN.at{g:Gd}{L:bQ g}{q:Lq}{A:H}{s:Shared}(S:aN L q A s)(i:Addr){h:Heap}{tk:Nat}{x:Option bN}{y:Option Obj}{j:Str->Option Value}{p:aH}(k:∀b o,b≠i->b≠L.ae->s.heap.get? b=some o->h.get? b=some o)(ns:h.Ns L.ae j)(r:i≠L.ae)(l:L.G i=none)
 (lr:iA h L ⟨j,dF q.mu i y,p⟩) (t:TL s.heap h) (m:∀o,x=some o->y=none/\(∃co,h.get? i=some co/\jd g h o co)/\∀aF,o=.fN aF->(i==sysModules)=false) (u:∀o,y=some o->h.get? i=some o):
 aN L ⟨j,dF q.mu i y,p⟩ (dF A i x) {s with heap:=h,toks:=tk}:=⟨
  by exact B S.1 rfl,
  λb o e=>k b o (λz=>by rw[z,l]at e;exact nn e) (λz=>by rw[z,L.gl]at e;exact nn e) (S.2 b o e),
  ns,
   lr,
  BO (P:=λa z=>∀o,z=some o->∃co,h.get? a=some co/\jd g h o co) (λo e=>(m o e).2.1) λb n o e=>az (S.5 b o e) λco z=>⟨co,k b co n (S.6 b o e).2.1 z.1,z.2.b_ t⟩,
   λa o e=>by
 by_cases z:a=i
 .have z:=z.symm;subst z;exact aS l r (fC.trans (m o (fC.symm.trans e)).1)
 .exact br (S.6 a o ((dA z).symm.trans e)) λc d f=>aS c d ((dA z).trans f),
   BO (P:=λa z=>∀o,z=some o->h.get? a=some o/\a≠L.ae/\L.G a=none) (λo e=>aS (u o e) r l) λb n o e=>br (S.7 b o e) λc d f=>aS (k b o n d c) d f,
   BO (P:=λa z=>∀aF,z=some (bN.fN aF)->(a==sysModules)=false) (λaF e=>(m _ e).2.2 aF rfl) λb Y aF e=>S.8 b aF e⟩
end
theorem mw{a:Type}{P:a->Prop}:∀o,(none:Option a)=some o->P o:=λY e=>nn e
theorem gM{c:Type}{P:Prop}{x:Option c}{o:c}(a:x=none)(b:x=some o):P:=by rw[a]at b;exact nn b
theorem oa(h:Heap){a:Addr}(ha:h.objs.size<=a):h.get? a=none:=Heap.get?_none_of_le ha
theorem hX(h:Heap)(o:Obj):∀b x,h.get? b=some x->(h.push o).get? b=some x:=λY Y e=>Heap.get?_push_of_some _ e
def nU(L:bQ g)(q:Lq)(A:H)(a:Addr):Prop:=Q4
 (A a=none)
 (L.G a=none)
 (a≠L.ae)
 (q.mu a=none)
theorem jT{a:Type}{x:Option a}(h:∀o,x≠some o):x=none:=by cases x with
 |none=>rfl
 |some o=>exact absurd rfl (h o)
theorem aN.eC(S:aN L q A s)(a:s.heap.get? b=none):nU L q A b:=⟨
 jT λo e=>az (S.5 b o e) λco z=>gM a z.1,
 jT λo e=>gM a (S.2 b o e),
 λe=>by refine d7 S.3 λo Y Y c=>?_;haveI z:=c.1;exact gM (e▸a) z,
 jT λo e=>gM a (S.7 b o e).1⟩
theorem aN.size(S:aN L q A s):nU L q A s.heap.objs.size:=S.eC (oa _ (dR _))
theorem BF{h:Heap}(a:h.get? b=none):∀aj n,h.get? b≠some (fV aj n):=λY Y e=>gM a e
theorem aN.vM{g:Gd}{L:bQ g}{q:Lq}{A:H}{s:Shared}(S:aN L q A s){a:Addr}{o:bN}(e:A a=some o):∀aj n,s.heap.get? a≠some (fV aj n):=λaj n z=>az (S.5 a o e) λco y=>y.2.free.2 aj n (dH (y.1.symm.trans z))
theorem aN.lr{g:Gd}{L:bQ g}{q:Lq}{A:H}{s:Shared}(S:aN L q A s){a:Addr}{b:Heap}{y:Option Obj}(t:TL s.heap b)(d:∀o,q.mu a=some o->iY o):iA b L ⟨q.m0,dF q.mu a y,q.bK⟩:=S.4.kf t λc o e=>by
 by_cases z:c=a
 .exact .inl (d o (aT z e))
 .exact .inr ((dA z).trans e)
theorem aN.to{g:Gd}{L:bQ g}{q:Lq}{A:H}{s:Shared}{f:Heap}{tk:Nat}(S:aN L q A s)(d:Addr){x:Option bN}{y:Option Obj}(k:∀b o,b≠d->b≠L.ae->s.heap.get? b=some o->f.get? b=some o)(ns:f.Ns L.ae q.m0)(h:d≠L.ae)(i:L.G d=none)(it:∀aj n,s.heap.get? d≠some (fV aj n))(j:∀o,q.mu d=some o->iY o)
 (l:∀o,x=some o->y=none/\(∃co,f.get? d=some co/\jd g s.heap o co)/\∀aF,o=.fN aF->(d==sysModules)=false) (m:∀o,y=some o->f.get? d=some o):
 aN L ⟨q.m0,dF q.mu d y,q.bK⟩ (dF A d x) {s with heap:=f,toks:=tk}:=
 have t:=S.tl k it
 S.at d k ns h i (S.lr t j) t (λo e=>br (l o e) λa b c=>aS a (az b λco z=>⟨co,z.1,z.2.b_ t⟩) c) m
theorem aN.oY(S:aN L q A s)(k:∀b o,b≠L.ae->s.heap.get? b=some o->a.get? b=some o):TL s.heap a:=S.tl (λb o Y=>k b o) (BF (oa s.heap (dR _)))
theorem TL.of(k:∀b o,h.get? b=some o->c.get? b=some o):TL h c:=λa Y Y e=>k a _ e
theorem aN.step(S:aN L q A s)(k:∀b o,b≠L.ae->s.heap.get? b=some o->a.get? b=some o)(ns:a.Ns L.ae q.m0):aN L q A {s with heap:=a,toks:=tk}:=by
 haveI o:=S.size;haveI z:=S.to (tk:=tk) s.heap.objs.size (λb o Y=>k b o) ns o.3 o.2 (BF (oa _ (dR _))) (λY e=>gM o.4 e) mw mw;rwa[nP o.1,nP o.4]at z
theorem aN.jS(S:aN L q A s)(k:∀b o,s.heap.get? b=some o->a.get? b=some o):aN L q A {s with heap:=a,toks:=tk}:=S.step (λb o Y=>k b o) (S.3.keeps k)
theorem aN.r7(S:aN L q A s):aN L q A {s with toks:=tk}:=S.jS λY Y e=>e
theorem aN.add{L:bQ g}(S:aN L q A s)(r:jd g s.heap o co)(c:s.heap.get? D=none)(k:∀b o,b≠L.ae->s.heap.get? b=some o->a.get? b=some o)(ns:a.Ns L.ae q.m0)(e:a.get? D=some co)(hm:∀aF,o=.fN aF->(D==sysModules)=false):aN L q (A.set D o) {s with heap:=a,toks:=tk}:=by
 have f:=S.eC c;haveI z:=S.to (tk:=tk) D (x:=some o) (λb o Y=>k b o) ns f.3 f.2 (BF c) (λY e=>gM f.4 e) (λY z=>by injection z with z;subst z;exact aS rfl ⟨co,e,r⟩ hm) mw
 rwa[nP f.4]at z
theorem aN.Qv{L:bQ g}(S:aN L q A s):(s.heap.objs.size==sysModules)=false:=
 beq_eq_false_iff_ne.mpr (Nat.ne_of_gt (j_ (modules_low g.vo) (aV L.above (c9 S.3.lt))))
theorem aN.push{L:bQ g}(S:aN L q A s)(r:jd g s.heap o co):aN L q (A.set s.heap.objs.size o) {s with heap:=s.heap.push co,toks:=tk}:=
 S.add r (oa _ (dR _)) (λb o Y=>hX _ _ b o) (S.3.keeps (hX _ _)) (mJ _ r.free.1) λY Y=>S.Qv
theorem aN.G9{g:Gd}{L:bQ g}{q:Lq}{A:H}{s:Shared}{c:Heap}{tk:Nat}(S:aN L q A s){a:Addr}{o d:bN}{f:Obj}(e:A a=some o)(k:∀b x,b≠a->b≠L.ae->s.heap.get? b=some x->c.get? b=some x)(ns:c.Ns L.ae q.m0)(he:c.get? a=some f)(r:jd g s.heap d f)(hm:∀aF,d=.fN aF->∃aF,o=.fN aF):
 aN L q (A.set a d) {s with heap:=c,toks:=tk}:=by
 refine br (S.6 a o e) λj l i=>?_;haveI z:=S.to (tk:=tk) a (x:=some d) k ns l j (S.vM e) (λY y=>gM i y) (λY z=>by injection z with z;subst z;exact aS rfl ⟨f,he,r⟩ λaF h=>az (hm aF h) λm n=>S.8 a m (aT n e)) mw
 rwa[nP i]at z
theorem aN.aW{g:Gd}{L:bQ g}{q:Lq}{A:H}{s:Shared}{c:Heap}{tk:Nat}(S:aN L q A s){a:Addr}{o d:bN}{f:Obj}(e:A a=some o)(hs:Heap.SameBut a s.heap c)(he:c.get? a=some f)(r:jd g s.heap d f)(hm:∀aF,d=.fN aF->∃aF,o=.fN aF):aN L q (A.set a d) {s with heap:=c,toks:=tk}:=
 S.G9 e (λb x n Y z=>(hs.2 b n).trans z) (S.3.sameBut hs (cQ (S.6 a o e).2.1)) he r hm
theorem aN.kf(S:aN L q A s)(a:nU L q A c)(it:∀aj n,s.heap.get? c≠some (fV aj n))(k:Heap.ExtBut c s.heap d):aN L q A {s with heap:=d,toks:=tk}:=by
 haveI z:=S.to (tk:=tk) c (λb o n Y=>k b o n) (S.3.at' λo e=>k _ _ (cQ a.3) e) a.3 a.2 it (λY e=>gM a.4 e) mw mw;rwa[nP a.1,nP a.4]at z
theorem aN.oj{g:Gd}{L:bQ g}{q:Lq}{A:H}{s:Shared}(S:aN L q A s){a:Addr}{o:Obj}(b:nU L q A a)(it:∀aj n,o≠fV aj n)(e:s.heap.get? a=some o):aN L ⟨q.m0,dF q.mu a (some o),q.bK⟩ A s:=by
 haveI z:=S.to (tk:=s.toks) a (λY Y Y Y e=>e) S.3 b.3 b.2 (λc n z=>it c n (dH (e.symm.trans z))) (λY e=>gM b.4 e) mw λY z=>aT z e;rwa[nP b.1]at z
theorem aN.tu(S:aN L q A s)(hm:q.mu a=some o):A a=none:=jT λx e=>nomatch (S.6 a x e).2.2.symm.trans hm
theorem aN.GS{g:Gd}{L:bQ g}{q:Lq}{A:H}{s:Shared}{f:Heap}{tk:Nat}(S:aN L q A s){d:Addr}{o h:Obj}{i:aH}(hm:q.mu d=some o)(it:∀aj n,o≠fV aj n)(k:Heap.ExtBut d s.heap f)(e:f.get? d=some h)(lr:TL s.heap f->iA f L ⟨q.m0,dF q.mu d (some h),i⟩):aN L ⟨q.m0,dF q.mu d (some h),i⟩ A {s with heap:=f,toks:=tk}:=by
 refine br (S.7 d o hm) λa b c=>?_;haveI t:=S.tl (λb o n Y=>k b o n) λaj n z=>it aj n (dH (a.symm.trans z));haveI z:=S.at (tk:=tk) d (λb o n Y=>k b o n) (S.3.at' λo e=>k _ _ (cQ b) e) b c (lr t) t mw λY z=>aT z e;rwa[nP (S.tu hm)]at z
theorem iY.nt(h:o.cls=.type n)(a:n≠"tuple"):∀aj n,o≠fV aj n:=λY Y q=>a (Value.type.inj (h.symm.trans (aP Obj.cls q)))
theorem aN.swap{g:Gd}{L:bQ g}{q:Lq}{A:H}{s:Shared}{b:Heap}{tk:Nat}(S:aN L q A s){a:Addr}{o c:Obj}(hm:q.mu a=some o)(it:∀aj n,o≠fV aj n)(hf:iY o)(k:Heap.ExtBut a s.heap b)(e:b.get? a=some c):aN L ⟨q.m0,dF q.mu a (some c),q.bK⟩ A {s with heap:=b,toks:=tk}:=
 S.GS hm it k e λt=>S.lr t λY z=>dH (hm.symm.trans z)▸hf
theorem aN.Jb{g:Gd}{L:bQ g}{q:Lq}{A:H}{s:Shared}(S:aN L q A s){d:Addr}{o:Obj}(hm:q.mu d=some o)(lr:iA s.heap L ⟨q.m0,dF q.mu d none,q.bK⟩):aN L ⟨q.m0,dF q.mu d none,q.bK⟩ A s/\nU L ⟨q.m0,dF q.mu d none,q.bK⟩ A d:=by
 refine br (S.7 d o hm) λa b c=>?_;haveI z:=S.at (tk:=s.toks) d (λY Y Y Y e=>e) S.3 b c lr .refl mw mw;simp only[nP (S.tu hm)]at z;exact⟨z,S.tu hm,c,b,fC⟩
theorem aN.drop{g:Gd}{L:bQ g}{q:Lq}{A:H}{s:Shared}(S:aN L q A s){a:Addr}{o:Obj}(hm:q.mu a=some o)(hf:iY o):aN L ⟨q.m0,dF q.mu a none,q.bK⟩ A s/\nU L ⟨q.m0,dF q.mu a none,q.bK⟩ A a:=
 S.Jb hm (S.lr .refl λY z=>dH (hm.symm.trans z)▸hf)
theorem aN.zi{L:bQ g}(S:aN L q A s)(f:nU L q A D)(e:s.heap.get? D=some co)(r:jd g s.heap o co)(hm:∀aF,o≠.fN aF):aN L q (A.set D o) s:=by
 haveI z:=S.to (tk:=s.toks) D (x:=some o) (λY Y Y Y e=>e) S.3 f.3 f.2 (λaj n z=>r.free.2 aj n (dH (e.symm.trans z))) (λY e=>gM f.4 e) (λY z=>by injection z with z;subst z;exact aS rfl ⟨co,e,r⟩ λaF h=>absurd h (hm aF)) mw
 rwa[nP f.4]at z
noncomputable def mq(gB:Heap)(ae:Addr)(ex:List Addr)(h:Heap):List (Addr×Obj):=
 (List.range h.objs.size).filterMap λb=>if b=ae\/b∈ex\/(gB.get? b).isSome then none else(h.get? b).map λo=>(b,o)
set_option tactic.hygienic true in
theorem vk:p∈mq gB ae ex h↔h.get? p.1=some p.2/\p.1≠ae/\p.1∉ex/\gB.get? p.1=none:=by
 unfold mq;refine List.mem_filterMap.trans ?_;constructor
 .intro z;refine az z λb z=>?_;haveI e:=z.2
  split at e
  .exact nn e
  .rename_i a
   rw[not_or,not_or]at a;refine az (Option.map_eq_some_iff.mp e) λo y=>?_;cases y.2;exact(cg y.1 a.1 a.2.1 (jT λY q=>a.2.2 (by rw[q];rfl)))
 .exactλz=>⟨p.1,List.mem_range.mpr (Heap.lt_size z.1),by rw[bx (by rw[not_or,not_or];exact aS z.2.1 z.2.2.1 (B z.2.2.2 gH)),z.1];rfl⟩
theorem aN.mq{L:bQ g}(S:aN L q A s)(ex:List Addr):News g.gB L.ae s.heap (mq g.gB L.ae ex s.heap):=λp hp=>⟨(vk.mp hp).1,(vk.mp hp).2.1,(vk.mp hp).2.2.2⟩
theorem aN.de{L:bQ g}(S:aN L q A s)(F:Fr g.gB L.ae a m)(N:News g.gB L.ae a l)(c:∀p∈Mp.mq g.gB L.ae ex s.heap,p∈l):
 ∀b o,b∉ex->b≠L.ae->s.heap.get? b=some o->a.get? b=some o:=λb o d f e=>by
 cases z:g.gB.get? b with
 |none=>exact(N (b,o) (c _ (vk.mpr (cg e f d z)))).1
 |some x=>exact dH (e.symm.trans (S.2 _ _ (L.dM _ _ z)))▸F.keep _ _ z
theorem aN.vf{L:bQ g}(S:aN L q A s)(F:Fr g.gB L.ae a m)(N:News g.gB L.ae a (p::Mp.mq g.gB L.ae [] s.heap)):∀b o,b≠L.ae->s.heap.get? b=some o->a.get? b=some o:=λb o=>S.de F N (λY=>cP _) b o gh
theorem aN.ajd{g:Gd}{L:bQ g}{q:Lq}{A:H}{s:Shared}(S:aN L q A s){a:Addr}{o:bN}(e:A a=some o):g.gB.get? a=none:=jT λx z=>nomatch (S.6 a o e).1.symm.trans (L.dM _ _ z)
inductive eD{g:Gd}(L:bQ g)(q:Lq)(h:Heap)(Q:V->H->Prop)(cv:Value)(s:Shared):Prop
 |mk (v:V) (A:H):Q v A->TL h s.heap->aN L q A s->bH g s.heap v cv->eD L q h Q cv s
inductive CN{g:Gd}(L:bQ g)(q:Lq)(h:Heap)(Q:List V->H->Prop)(aj:List Value)(s:Shared):Prop
 |mk (E:List V) (A:H):Q E A->TL h s.heap->aN L q A s->bX g s.heap E aj->CN L q h Q aj s
inductive pA{g:Gd}(L:bQ g)(q:Lq)(h:Heap)(Q:Bool->H->Prop)(b:Bool)(s:Shared):Prop
 |mk (A:H):Q b A->TL h s.heap->aN L q A s->pA L q h Q b s
def jj:Value->Shared->Prop:=λY Y=>False
theorem O9:∀x s,jj x s->jj x s:=λY Y x=>x
theorem eD.lE{L:bQ g}(z:Q v A)(S:aN L q A s)(r:bH g s.heap v a):eD L q s.heap Q a s:=⟨v,A,z,.refl,S,r⟩
theorem eD.up(t:TL h a)(r:eD L q a Q b s):eD L q h Q b s:=r.rec λv A z u S r=>⟨v,A,z,t.trans u,S,r⟩
theorem pA.up(t:TL h a)(r:pA L q a Q b s):pA L q h Q b s:=r.rec λA z u S=>⟨A,z,t.trans u,S⟩
theorem eD.at{L:bQ g}(t:TL h s.heap)(z:Q v A)(S:aN L q A s)(r:bH g s.heap v a):eD L q h Q a s:=⟨v,A,z,t,S,r⟩
theorem yO(u:TL h a)(x:wpAny (model prog w) aa t (eD L q a Q) jj s):wpAny (model prog w) aa t (eD L q h Q) jj s:=wpAny_mono x (λY Y=>eD.up u) O9
noncomputable def ako:Expr->Option Str
 |.Name id _=>some id
 |_=>none
section
noncomputable def ahK:List V:=[.str "input",.str "define",.str "ite_term",.str "three",.str "bits",.str "congruence",.str "farkas",.str "branch",.str "divide",.str "cut",.str "resolve"]
noncomputable def sG(n:String):Option Value:=zt.lookup n
theorem ji{a b:Type}[BEq a][LawfulBEq a]{l:List (a×b)}{x:a}{k:b}(h:l.lookup x=some k):(x,k)∈l:=by
 induction l with
 |nil=>exact nn h
 |cons p l ih=>
  obtain⟨n,j⟩:=p;rw[List.lookup_cons]at h;by_cases q:x=n
  .subst q;rw[beq_self_eq_true]at h;injection h with h;subst h;exact bE ..
  .rw[beq_eq_false_iff_ne.mpr q]at h;exact cP _ (ih h)
def o7(g:Gd):Prop:=CM
 (∀n i,Ae n=some i->∃t,g.mg (PS n)=some (.int i t))
 (∃a aj n,g.mg (PS "RULES")=some (.ref a)/\aj.length<=16777216/\g.K.lookup a=some (fV aj n)/\∀h,bX g h ahK aj)
 (∀f:aJ,f.cls=none->g.mg (PS f.nm)=some (.ref (fi f)))
 (∀n v,sG n=some v->g.mg (PS n)=none)
 (∀c f,f≠.jZ->f.cls.any (Cl.n9 c)=true->findIn g.K (.ref (gS c)) (PS f.nm)=some (some (.ref (fi f))))
 (∀f:aJ,isFn g.K (.ref (fi f))=true/\fnIn g.K (fi f)=true/\keepIn g.K (.ref (fi f))=true)
 (∀c:Cl,g.mg (PS c.nm)=some (.ref (gS c)))
 (∀c,plainGet g.K (gS c) (PS "")=true)
 (∀c:Cl,hasDictIn g.K (gS c)=true)
 (∀c x,c.fields.contains x=true->findIn g.K (.ref (gS c)) (PS x)=some none)
 (∀c:Cl,findIn g.K (.ref (gS c)) "__setattr__"=some (some (.builtin "object.__setattr__"))/\plainOver g.K (gS c)=true)
 (∀c:Cl,makesIn g.K (gS c)=true/\keepIn g.K (.ref (gS c))=true)
 (∀f:aJ,specialIn g.K (.ref (fi f)) "__get__"=some (some (.builtin "function.__get__"))/\takesIn g.K (.ref (fi f))=some false)
 (∀c x,c.fields.contains x=true->takerIn g.K (gS c) (PS x)=some none)
def gP(kd:Kd)(av:Env):Prop:=Q5
 (∀x,kd x=some .globalImplicit->av.kindOf x=some .globalImplicit)
 (∀x,kd x=some .local->av.kindOf x=some .local)
 (∀x,kd x=some .cell\/kd x=some .free->av.kindOf x=some .cell\/av.kindOf x=some .free)
 (∀x,kd x=some .cell\/kd x=some .free->∃c,av.cells.lookup x=some c)
 (kd (PS "%lam")=some .globalExplicit->av.code=.ref oR/\av.qual=FA)
def sf(g:Gd)(h:Heap)(f:aJ)(E:List V)(aj:List Value):Prop:=
 (f≠.m9/\bX g h E aj)\/(f=.m9/\∃p,E=[.ref p,.int gk]/\aj=[.ref p])
def nV(k:Nat)(aa:Around):Prop:=aa.handled=none/\aa.depth+3*k<=800/\aa.units+30*k<=8000
def sg(g:Gd)(C:Cx)(k:Nat):Prop:=∀f E A Q (L:bQ g) q s aj aa,nV k aa->C f E A Q->aN L q A s->sf g s.heap f E aj->
 codeAny (model g.prog g.w) aa (.call (.ref (fi f)) ⟨aj,[]⟩) (λr a=>match r with|.ok (.ret v)=>eD L q s.heap Q v a|_=>False) s
structure bM(g:Gd)where
 C:Cx
 aa:Around
 kd:Kd
 k:Nat
 ck:o7 g
 hh:aa.handled=none
 hd:aa.depth+3*k+2<=800
 hu:aa.units+30*k+20<=8000
 hC:sg g C k
noncomputable abbrev bM.wp(b:bM g)(t:Sem bB)(R:bB->Shared->Prop)(s:Shared):Prop:=wpAny (model g.prog g.w) b.aa t R jj s
section
variable{g:Gd}
variable(b:bM g)
def bz(e:a7)(pe:Expr):Prop:=∀(L:bQ g) q A Q s,gP b.kd L.av->aB b.C e q.bK A Q->aN L q A s->b.wp (eval pe L.av) (eD L q s.heap Q) s
def t8(es:List a7)(a:List Expr):Prop:=∀(L:bQ g) q A Q s pos,gP b.kd L.av->Es b.C es q.bK A Q->aN L q A s->b.wp (spliced (backTo pos (starEach a L.av))) (CN L q s.heap λE A=>E.length=es.length/\Q E A) s
def ke(e:a7)(pe:Expr):Prop:=∀(L:bQ g) q A Q s,gP b.kd L.av->aB b.C e q.bK A (λv A=>∃b,v=.bool b/\Q b A)->aN L q A s->b.wp (isTrue pe L.av (eval pe L.av)) (pA L q s.heap Q) s
def pj(e:a7)(l:Expr)(o:CmpOp)(r:Expr):Prop:=∀(L:bQ g) q A Q s,gP b.kd L.av->aB b.C e q.bK A Q->aN L q A s->b.wp (eval l L.av) (λx a=>b.wp (eval r L.av) (λy c=>b.wp (compareOp o x y) (eD L q s.heap Q) c) a) s
end
theorem dD{b:bM g}(x:b.wp t R s)(k:∀{a c},R a c->R' a c):b.wp t R' s:=wpAny_mono x (λY Y=>k) O9
theorem bz.then{b:bM g}{L:bQ g}(x:bz b e p)(ko:gP b.kd L.av)(he:aB b.C e q.bK A Q)(S:aN L q A s)(k:∀{v c A a},Q v A->TL s.heap a.heap->aN L q A a->bH g a.heap v c->R c a):b.wp (eval p L.av) R s:=
 dD (x L q A Q s ko he S) λr=>r.rec λY Y=>k
theorem ke.then{b:bM g}{L:bQ g}{Q:Bool->H->Prop}(x:ke b e p)(ko:gP b.kd L.av)(he:aB b.C e q.bK A λv A=>∃b,v=.bool b/\Q b A)(S:aN L q A s)(k:∀{t A a},Q t A->TL s.heap a.heap->aN L q A a->R t a):b.wp (isTrue p L.av (eval p L.av)) R s:=
 dD (x L q A Q s ko he S) λr=>r.rec λY=>k
theorem bz.eM{b:bM g}{L:bQ g}{P:V->V->H->Prop}{R:Value->Value->Shared->Prop}(x:bz b a p)(y:bz b c r)(ko:gP b.kd L.av)(he:aB b.C a q.bK A λv A=>aB b.C c q.bK A (P v))(S:aN L q A s)
 (k:∀{v e w f A d},P v w A->TL s.heap d.heap->aN L q A d->bH g d.heap v e->bH g d.heap w f->R e f d):b.wp (eval p L.av) (λu h=>b.wp (eval r L.av) (R u) h) s:=
 x.then ko he S λz t S r=>y.then ko z S λz J S r'=>k z (t.trans J) S (r.b_ J) r'
@[elab_as_elim]theorem bH.iD {P:Value->Prop} (e:v=.int i) (r:bH g h v a) (k:∀t,P (.int i t)):P a:=by subst e;cases r;exact k _
@[elab_as_elim]theorem bH.Dv {P:Value->Prop} (e:v=.bool i) (r:bH g h v a) (k:P (.bool i)):P a:=by subst e;cases r;exact k
@[elab_as_elim]theorem bH.kQ {g:Gd} {h:Heap} {v:V} {a:Value} {P:Value->Prop} {i:Nat} (e:v=.ref i) (r:bH g h v a) (k:P (.ref i)):P a:=by subst e;cases r;exact k
@[elab_as_elim]theorem bH.tP {P:Value->Prop} (e:v=.str i) (r:bH g h v a) (k:∀t,P (.str (PS i) t)):P a:=by subst e;cases r;exact k _
@[elab_as_elim]theorem bH.AY {P:Value->Prop} {a:Int->Prop} (z:∃i,v=.int i/\a i) (r:bH g h v b) (k:∀i t,a i->P (.int i t)):P b:=az z λi z=>r.iD z.1 λt=>k i t z.2
@[elab_as_elim]theorem bH.sF {P:Value->Prop} {a:Bool->Prop} (z:∃i,v=.bool i/\a i) (r:bH g h v b) (k:∀i,a i->P (.bool i)):P b:=az z λi z=>r.Dv z.1 (k i z.2)
@[elab_as_elim]theorem bH.xZ {P:Value->Value->Prop} {a:Int->Int->Prop} (z:∃i j,v=.int i/\w=.int j/\a i j) (r:bH g h v b) (r':bH g h w c) (k:∀i j t u,a i j->P (.int i t) (.int j u)):P b c:=
 cF z λi j z=>bH.iD z.1 r λt=>bH.iD z.2.1 r' λu=>k i j t u z.2.2
@[elab_as_elim]theorem bH.m6 {P:Value->Prop} (r:bH g h (.aE E) b) (k:∀a aj n,h.get? a=some (fV aj n)->bX g h E aj->aj.length<=16777216->P (.ref a)):P b:=by
 cases r with
 |aE a _ aj n l e r=>exact k a aj n e r l
@[elab_as_elim]theorem bH.Cg {P:Value->Prop} (e:v=.aE E) (r:bH g h v b) (k:∀a aj n,h.get? a=some (fV aj n)->bX g h E aj->aj.length<=16777216->P (.ref a)):P b:=by subst e;exact r.m6 k
@[elab_as_elim]theorem bX.ie {P:List Value->Prop} (r:bX g h (v::E) aj) (k:∀c cs,bH g h v c->bX g h E cs->P (c::cs)):P aj:=by
 cases r with
 |cons _ c _ cs a b=>exact k c cs a b
@[elab_as_elim]theorem bX.jz {P:List Value->Prop} (r:bX g h [] aj) (k:P []):P aj:=by cases r;exact k
theorem bX.len(r:bX g h E aj):E.length=aj.length:=r.rec (motive_1:=λY Y Y=>True) trivial (λY=>trivial) (λY Y=>trivial) (λY Y=>trivial) (λY=>trivial) (λY Y Y Y Y Y Y Y=>trivial) (λY Y Y Y Y Y Y=>trivial) rfl λY Y Y Y Y Y Y i=>aP Nat.succ i
theorem aN.ref{L:bQ g}(S:aN L q A s)(e:A a=some (.list E)){R:Prop}(k:∀aj n,s.heap.get? a=some (eT aj n)->bX g s.heap E aj->R):R:=
 az (S.5 a _ e) λco z=>by
  obtain⟨b,c⟩:=z;cases c with
  |list _ aj n r=>exact k aj n b r
theorem aN.dS{L:bQ g}(S:aN L q A s)(e:A a=some (.kg aF)){R:Prop}(k:∀es,s.heap.DictOf (strKind g.prog g.w) a (pZ es)->kc g s.heap aF es->R):R:=
 az (S.5 a _ e) λco z=>aU z λb c=>by
  cases c with
  |kg _ es _ hd r=>exact k es (Heap.dictOf_iff.mpr ⟨co,b,hd⟩) r
theorem aN.dI{L:bQ g}(S:aN L q A s)(e:A a=some (.fN aF)){R:Prop}(k:∀es,s.heap.DictOf (intKind g.prog g.w) a es->kc g s.heap aF es->R):R:=
 az (S.5 a _ e) λco z=>aU z λb c=>by
  cases c with
  |fN _ es _ hd r=>exact k es (Heap.dictOf_iff.mpr ⟨co,b,hd⟩) r
theorem nd(x:Nm):(x.S==("__debug__":PySem.Str))=false:=(lT _).mp (Nm.mV (p:=λx=>!(x.S==_)) (by decide+kernel) x)
theorem afP(x:Nm):(x.S==("__classdict__":PySem.Str))=false:=(lT _).mp (Nm.mV (p:=λx=>!(x.S==_)) (by decide+kernel) x)
theorem Aa(f:aJ):(PS f.nm==("__debug__":PySem.Str))=false:=(lT _).mp (aJ.mV (p:=λf=>!(PS f.nm==_)) (by decide+kernel) f)
theorem bq{c:Type}[BEq c][LawfulBEq c]{a b:c}(h:(a==b)=true):a=b:=beq_iff_eq.mp h
theorem gK(h:(a&&b)=true):a=true/\b=true:=(jC a b).mp h
theorem aL(h:(a&&b)=true):a=true:=(gK h).1
theorem aR(h:(a&&b)=true):b=true:=(gK h).2
theorem xi{b:bM g}{L:bQ g}(S:aN L q A s)(ko:gP b.kd L.av)(a:(b.kd x==some .globalImplicit)=true)(hd:(x==("__debug__":PySem.Str))=false)(hm:g.mg x=some v)(k:R v s):b.wp (eval (.Name x pos) L.av) R s:=
 Name_function_global L.kind (ko.1 _ (bq a)) (loadGlobal_global (B L.qg S.T.g) hm k) hd
theorem Dt{b:bM g}{L:bQ g}(S:aN L q A s)(ko:gP b.kd L.av)(c:iQ b.kd x=true)(a:sG x=some v)(k:R v s):b.wp (eval (.Name (PS x) pos) L.av) R s:=
 haveI key:=dQ (iI.mp (by decide+kernel:zt.all (λp=>decide ((PS p.1==("__debug__"))=false/\PS p.1≠("__name__")/\bootBuiltins (PS p.1)=some p.2))=true) _ (ji a))
 Name_function_global L.kind (ko.1 _ (bq c)) (loadGlobal_builtin (B L.qg S.T.g) (b.ck.4 x v a) (B L.ud S.T.b) ((S.T.builtins _ key.2.1).trans key.2.2) k) key.1
theorem agx{k p}:bz b .none (.Constant .none k p):=λY Y Y Y Y Y e S=>wpAny_Constant_none (.lE e S .none)
theorem agg{k p}:bz b (.bool i) (.Constant (.bool i) k p):=λY Y Y Y Y Y e S=>Constant_bool (.lE e S (.bool i))
theorem agq{k p}:bz b (.int i) (.Constant (.int i) k p):=λY Y Y Y Y Y e S=>wpAny_Constant_int (.at .refl e S.r7 (.int i _))
theorem agF{k p}:bz b (.str x) (.Constant (.str (PS x)) k p):=λY Y Y Y Y Y e S=>wpAny_Constant_str (.at .refl e S.r7 (.str x _))
theorem WK(hi:Ae n=some i):(PS n==("__debug__":PySem.Str))=false:=
 dQ (iI.mp (by decide+kernel:uI.all (λp=>decide ((PS p.1==("__debug__"))=false))=true) _ (ji hi))
theorem ago(a:iQ b.kd n=true)(hi:Ae n=some i):bz b (.dO n i) (.Name (PS n) pos):=λL q A Q s ko he S=>
 az (b.ck.1 n i hi) λt c=>xi S ko a (WK hi) c (.lE he S (.int i t))
theorem agC(c:iQ b.kd "RULES"=true):bz b .vB (.Name (PS "RULES") pos):=λL q A Q s ko he S=>
 d7 b.ck.2 λa aj n z=>xi S ko c (by decide+kernel) z.1 (.lE he S (.aE a _ aj n z.2.1 (S.kn _ _ z.2.2.1) (z.2.2.2 _)))
theorem iA.at(r:iA s.heap L q)(S:aN L q A s)(e:q.bK x=some v){R:Prop}(k:∀m,s.heap.Ns L.av.locals m->sq s.heap L q.mu m x v->R):R:=by
 cases r with
 |ja b a=>exact k q.m0 (B b S.3) (a x v e)
 |lZ c m b n a=>exact k m (n.ns (S.7 _ _ b).1) (a x v e)
theorem BI(d:pO b.kd n=true):bz b (.var n) (.Name n.S pos):=λL q A Q s ko he S=>az he λv he=>S.4.at S he.1 λm ns a=>by
 haveI z:b.kd n.S=some .local\/b.kd n.S=some .cell\/b.kd n.S=some .free:=by
  simp only[pO,Bool.or_eq_true,beq_iff_eq,or_assoc]at d;exact d
 refine z.elim (λd=>az (a.1 (ko.2 _ d)) λf r=>wpAny_Name (wpAny_loadName_local L.kind (ko.2 _ d) ns r.1 (.lE he.2 S r.2)) (nd n)) λd=>?_;haveI d:=ko.3 n.S d;refine d7 (a.2 d) λc o f r=>?_;haveI g:s.heap.IsCell c (some f):=⟨o,r.2.1.elim (λe=>(S.7 _ _ e).1) (S.2 _ _),r.2.2.1⟩;exact d.elim (λd=>wpAny_Name (wpAny_loadName_cell L.kind d r.1 g (.lE he.2 S r.2.2.2)) (nd n)) λd=>wpAny_Name (wpAny_loadName_free L.kind d r.1 g (.lE he.2 S r.2.2.2) (afP n)) (nd n)
end
theorem afn(h:n<2^(k+1)):n.log2<=k:=by
 by_cases e:n=0
 .subst e;simp
 .exact Nat.lt_succ_iff.mp ((Nat.log2_lt e).mpr h)
theorem OK(a: -small<=b)(c:b<=small):b.natAbs.log2<=62:=afn (by unfold small at a c;lia)
theorem Il(a: -small<=b)(c:b<=small):Builtin.Int.intBits b<=64:=by
 haveI:=OK a c;unfold Builtin.Int.intBits
 split<;>lia
theorem ahp{a b:Int}(c: -small<=b)(d:b<=small):Builtin.divisionGoesByPylong a b=false:=by
 haveI:=OK c d;unfold Builtin.divisionGoesByPylong;simp only[Bool.and_eq_false_iff,decide_eq_false_iff_not]
 left
 split<;>lia
theorem eD.int{g:Gd}{L:bQ g}{q:Lq}{A:H}{s:Shared}{h:Heap}{Q:V->H->Prop}{i:Int}{k tk:Nat}(t:TL h s.heap)(z:Q (.int i) A)(S:aN L q A s):eD L q h Q (.int i k) {s with toks:=tk}:=⟨_,_,z,t,S.r7,.int _ _⟩
theorem agv(x:bz b a p):bz b (.neg a) (.UnaryOp .USub p pos):=λL q A Q s ko he S=>by
 simp only[eval_UnaryOp];exact cD (x.then ko he S λz t S r=>r.AY z λi k z=>cD (wpAny_standAt (wpAny_holding (neg_int (.int t z S)))))
theorem agy(x:bz b a p):bz b (.not a) (.UnaryOp .Not p pos):=λL q A Q s ko he S=>by
 simp only[eval_UnaryOp];exact cD (x.then ko he S λz t S r=>r.sF z λi z=>cD (wpAny_standAt (wpAny_holding (not_of (wpAny_truthy_bool (.at t z S (.bool _)))))))
theorem af9(x:ke b a p):ke b (.not a) (.UnaryOp .Not p pos):=λL q A Q s ko he S=>
 haveI c:aB b.C a q.bK A λv A=>∃i,v=.bool i/\Q (!i) A:=by
  haveI h:aB b.C a q.bK A λv A=>∃i,v=.bool i/\∃j,V.bool (!i)=V.bool j/\Q j A:=he;simpa only[V.bool.injEq,exists_eq_left'] using h
 isTrue_not (x L q A (λi A=>Q (!i) A) s ko c S|>λh=>dD h λr=>r.rec λA z t S=>⟨A,z,t,S⟩)
theorem agf(x:bz b a l)(y:bz b c r):bz b (.cJ op a c) (.BinOp l op.op r pos):=λL q A Q s ko he S=>
 wpAny_BinOp (bz.eM x y ko he S λz t S d f=>d.xZ z f λi j Y Y z=>by
  haveI e:=λk tk=>eD.int (k:=k) (tk:=tk) t z.2 S;cases op with
  |add=>exact add_int (e _ _)
  |sub=>exact sub_int (e _ _)
  |mul=>exact mul_int (e _ _) (z.1.elim (λh=>.of_left (Il h.1 h.2)) λh=>.of_right (Il h.1 h.2))
  |fdiv=>exact floordiv_int z.1.1 (e _ _) (.inl (ahp z.1.2.1 z.1.2.2))
  |mod=>exact mod_int' z.1 (e _ _))
theorem agz(x:pj b e l o r)(hm:behindInMarks o r=false):bz b e (.Compare l [o] [r] pos):=λL q A Q s ko he S=>wpAny_Compare1 (x L q A Q s ko he S) hm
theorem P_{g:Gd}{b:bM g}{L:bQ g}{q:Lq}{s:Shared}{h:Heap}{a:Value}{Q:Bool->H->Prop}(x:eD L q h (λv A=>∃i,v=.bool i/\Q i A) a s):b.wp (truthy a) (pA L q h Q) s:=x.rec λY Y z t S r=>r.sF z λi z=>wpAny_truthy_bool ⟨_,z,t,S⟩
theorem af'(x:pj b e l o r)(hm:behindInMarks o r=false):ke b e (.Compare l [o] [r] pos):=λL q A Q s ko he S=>
 wpAny_isTrue_Compare1 (dD (x L q A _ s ko he S) λh=>dD h λh=>dD h P_) hm
theorem Pm(x:bz b e p)(hp:∀av a,isTrue p av a=(do let v<-a;standAt p.pos;holding [v] (truthy v))):ke b e p:=λL q A Q s ko he S=>
 isTrue_plain (dD (x L q A _ s ko he S) P_) (hp _ _)
theorem agI(x:bz b a l)(y:bz b c r):pj b (.dw op a c) l op.op r:=λL q A Q s ko he S=>bz.eM x y ko he S λz t S d f=>d.xZ z f λi j Y Y z=>by
 haveI e:=eD.at t z S (.bool _);cases op with
 |lt=>exact lt_int e
 |le=>exact le_int e
 |gt=>exact P.gt_int e
 |ge=>exact ge_int e
theorem N7(r:bH g h v a):(a==Value.none)=true/\v=.none\/(a==Value.none)=false/\v≠.none:=by
 cases r with
 |none=>exact .inl ⟨rfl,rfl⟩
 |_=>exact .inr ⟨rfl,nofun⟩
theorem agO{k}(x:bz b a p):pj b (.hV ne a) p (x7 ne) (.Constant .none k pos):=λL q A Q s ko he S=>x.then ko he S λz t S r=>wpAny_Constant_none (by
 cases ne with
 |false=>exact is_none_gen ((N7 r).elim (λk=>k.1▸.at t (z.1 k.2) S (.bool _)) λk=>k.1▸.at t (z.2 k.2) S (.bool _))
 |true=>exact isnot_none_gen ((N7 r).elim (λk=>k.1▸.at t (z.1 k.2) S (.bool _)) λk=>k.1▸.at t (z.2 k.2) S (.bool _)))
theorem agN{k}(x:bz b a p):pj b (.rH ne a i) p (x7 ne) (.Constant (.bool i) k pos):=λL q A Q s ko he S=>x.then ko he S λz t S r=>r.sF z λj z=>Constant_bool (by
 haveI e:=eD.at t z S (.bool _);cases ne with
 |false=>exact is_bool (by cases j<;>cases i<;>exact e)
 |true=>exact isnot_bool (by cases j<;>cases i<;>exact e))
theorem agr(x:ke b d u)(y:bz b a l)(w:bz b c r):bz b (.ite d a c) (.IfExp u l r pos):=λL q A Q s ko he S=>
 IfExp_ (x.then ko he S λ{i _ _} z t S=>match i with
  |true=>yO t (y L q _ Q _ ko (z.1 rfl) S)
  |false=>yO t (w L q _ Q _ ko (z.2 rfl) S))
theorem vK(a:fI p=true)(ps:List Expr)(av:Env):starEach (p::ps) av=(false,eval p av)::starEach ps av:=by cases p<;>first|rfl|exact nf a
theorem Pw:t8 b [] []:=λL q A Q s pos ko he S=>dX ⟨[],A,⟨rfl,he⟩,.refl,S,.nil⟩
theorem Gh(c:fI p=true)(x:bz b e p)(y:t8 b es ps):t8 b (e::es) (p::ps):=λL q A Q s pos ko he S=>by
 rw[vK c];show b.wp (do
  let v<-(if false=true then(do let v<-eval p L.av;standAt pos;pure v)else eval p L.av)
  let lE<-(if false=true then(do
   if<-notIterableAtAll v then
    rule "star.not-iterable";raiseError "TypeError" s!"Value after * must be an iterable, not {← typeNameOf v}"
   PySem.collect v)else pure [v])
  return lE++(<-holding lE (spliced (backTo pos (starEach ps L.av))))) _ s
 exact B (bx gH)<|cD (x.then ko he S λz t S r=>cD (by
  exact B (bx gH) (dX (cD (wpAny_holding (dD (y L q _ _ _ pos ko z S) λa=>a.rec λE A z J S a=>dX ⟨_::E,A,⟨aP Nat.succ z.1,z.2⟩,t.trans J,S,.cons _ _ _ _ (r.b_ J) a⟩))))))
theorem eD.list{L:bQ g}(t:TL h s.heap)(S:aN L q A s)(z:jg A E Q)(r:bX g s.heap E aj):eD L q h Q (.ref s.heap.objs.size) {s with heap:=s.heap.push (eT aj n),toks:=tk}:=
 ⟨_,_,z _ S.size.1,t.trans (.of (hX _ _)),S.push (.list E aj n r),.ref _⟩
theorem eD.aE{L:bQ g}(t:TL h s.heap)(S:aN L q A s)(z:Q (.aE E) A)(l:aj.length<=16777216)(r:bX g s.heap E aj):eD L q h Q (.ref s.heap.objs.size) {s with heap:=s.heap.push (fV aj n),toks:=tk}:=
 ⟨_,A,z,t.trans (.of (hX _ _)),S.jS (hX _ _),.aE _ E aj n l (mJ _ rfl) (r.b_ (.of (hX _ _)))⟩
theorem OG(h:n<=m)(k:m<=16777216):n<=sizeLine:=B sizeLine_eq (aV h k)
theorem Pr{k}(x:t8 b es ps)(a:es.length<=16):bz b (.aE es) (.Tuple ps k pos):=λL q A Q s ko he S=>
 Tuple_ (dD (x L q A _ s pos ko he S) λr=>r.rec λE A z t S r=>wpAny_newTuple (.aE t S z.2 (r.len▸z.1▸aV a (by decide)) r) (OG (r.len▸z.1▸a) (by decide)))
theorem agt(x:t8 b es ps)(a:es.length<=16):bz b (.dj es) (.List ps pos):=λL q A Q s ko he S=>
 List_ (dD (x L q A _ s pos ko he S) λr=>r.rec λE A z t S r=>wpAny_newList (.list t S z.2 r) (OG (r.len▸z.1▸a) (by decide)))
inductive Al(P:a7->Expr->Prop):List a7->List Expr->Prop
 |nil:Al P [] []
 |cons {e:a7} {p:Expr} {es:List a7} {ps:List Expr}:P e p->Al P es ps->Al P (e::es) (p::ps)
theorem af7(x:Al (ke b) es ps):ke b (.and es) (.BoolOp .And ps pos):=by
 induction x with
 |nil=>exactλL q A Q s ko he S=>isTrue_and_nil (az he λi z=>⟨A,by cases z.1;exact z.2,.refl,S⟩)
 | @cons e p es ps x _ ih=>exactλL q A Q s ko he S=>isTrue_and (x.then ko he S λ{i _ _} z t S=>match i with
  |true=>dD (ih L q _ Q _ ko (z.1 rfl) S) (pA.up t)
  |false=>az (z.2 rfl) λi z=>⟨_,by cases z.1;exact z.2,t,S⟩)
theorem af_(x:Al (ke b) es ps):ke b (.or es) (.BoolOp .Or ps pos):=by
 induction x with
 |nil=>exactλL q A Q s ko he S=>dX (a:=false) (az he λi z=>⟨A,by cases z.1;exact z.2,.refl,S⟩)
 | @cons e p es ps x _ ih=>exactλL q A Q s ko he S=>isTrue_or (x.then ko he S λ{i _ _} z t S=>match i with
  |false=>dD (ih L q _ Q _ ko (z.2 rfl) S) (pA.up t)
  |true=>az (z.1 rfl) λi z=>⟨_,by cases z.1;exact z.2,t,S⟩)
theorem agb(x:Al (bz b) es ps)(a:es.isEmpty=false):bz b (.and es) (.BoolOp .And ps pos):=by
 induction x with
 |nil=>exact nt a
 | @cons e p es ps x y ih=>
  intro L q A Q s ko he S;cases y with
  |nil=>exact BoolOp_one (x.then ko he S λz t S r=>r.sF z λi z=>match i with
   |true=>.at t (z.1 rfl) S (.bool _)
   |false=>.at t (z.2 rfl) S (.bool _))
  |cons=>exact BoolOp_and (x.then ko he S λz t S r=>r.sF z λi z=>wpAny_truthy_bool (match i with
   |true=>yO t (ih rfl L q _ Q _ ko (z.1 rfl) S)
   |false=>.at t (z.2 rfl) S (.bool _)))
theorem agA(x:Al (bz b) es ps)(a:es.isEmpty=false):bz b (.or es) (.BoolOp .Or ps pos):=by
 induction x with
 |nil=>exact nt a
 | @cons e p es ps x y ih=>
  intro L q A Q s ko he S;cases y with
  |nil=>exact BoolOp_one (x.then ko he S λz t S r=>r.sF z λi z=>match i with
   |true=>.at t (z.1 rfl) S (.bool _)
   |false=>.at t (z.2 rfl) S (.bool _))
  |cons=>exact BoolOp_or (x.then ko he S λz t S r=>r.sF z λi z=>wpAny_truthy_bool (match i with
   |false=>yO t (ih rfl L q _ Q _ ko (z.2 rfl) S)
   |true=>.at t (z.1 rfl) S (.bool _)))
theorem yt(h:PS a=PS b):a=b:=by
 haveI c:=aP (λx:PySem.Str=>x.cps.toList) h;simp only[PS,PySem.Str.ofString_eq_toList]at c;exact String.toList_inj.mp ((List.map_inj_right λx y e=>Char.ext (UInt32.toNat_inj.mp e)).mp c)
theorem zy(a b:String):(PS a==PS b)=decide (a=b):=by
 by_cases h:a=b
 .rw[h,beq_self_eq_true,cO rfl]
 .simp only[dp h];exact beq_eq_false_iff_ne.mpr λe=>h (yt e)
noncomputable def RV:List Nm:=(List.range 99).map λi=>Nm.ofNat i
theorem afW{a b:Nm}(h:a.str=b.str):a=b:=by
 haveI key:=λx=>dQ (Nm.mV (p:=λx=>decide ((RV.find? λy=>y.str==x.str)=some x)) (by decide+kernel) x)
 exact dH ((key a).symm.trans (B h (key b)))
theorem y_{x y:Nm}(h:x.S=y.S):x=y:=afW (yt h)
theorem CP{x y:Nm}(h:y≠x):y.S≠x.S:=λe=>h (y_ e)
theorem Ij(a b:Nm):(a.S==b.S)=decide (a=b):=by
 by_cases h:a=b
 .rw[h,beq_self_eq_true,cO rfl]
 .simp only[dp h];exact beq_eq_false_iff_ne.mpr (CP h)
theorem Ka:getL n (⟨h,.str m t,a⟩::es)=if(m==n)=true then some (some a)else getL n es:=by
 unfold getL;refine B List.find?_cons ?_;refine B List.any_cons ?_;haveI e:(Value.str m t).isStr n=(m==n):=rfl;haveI b:DictEntry.refKey ⟨h,.str m t,a⟩=false:=rfl;refine B e ?_;rw[b,Bool.false_or];cases m==n<;>rfl
theorem Of(r:m_ g h aF es)(n:Nm):(∃v b,kq aF n=some v/\getL n.S es=some (some b)/\bH g h v b)\/kq aF n=none/\getL n.S es=some none:=by
 induction r with
 |nil=>exact .inr ⟨rfl,rfl⟩
 |cons m v i t b aF es a _ ih=>
  refine B Ka ?_;rw[Ij,show kq ((m,v)::aF) n=if m=n then some v else kq aF n from rfl]
  by_cases z:m=n
  .exact B (bA z)<|B (cO z)<|B (bA rfl)<|.inl (cE v b (aS rfl rfl a))
  .exact B (bx z)<|B (dp z)<|B (bx gH)<|ih
theorem Og(r:m_ g h aF es){c:Cl}(d:c.fields.contains x=false):(∀p∈aF,c.has p.1=true)->getL (PS x) es=some none:=by
 induction r with
 |nil=>exactλY=>rfl
 |cons m v i t e aF es a _ ih=>
  intro b;haveI ne:m.str≠x:=λz=>by
   haveI hm:c.fields.contains m.str=true:=b (m,v) (bE ..);rw[z,d]at hm;exact nf hm
  rw[Ka,zy,dp ne,bx gH];exact ih λp hp=>b p (cP _ hp)
theorem aN.dB{g:Gd}{L:bQ g}{q:Lq}{A:H}{s:Shared}(S:aN L q A s){a d:Addr}{c e:Cl}{aF:List (Nm×V)}(f:A a=some (.dB c d))(h:A d=some (.cM e aF)){R:Prop}(k:∀es n,InstAt s.heap a (instObj (gS c) d) (gS c) (some (dictOf es n))->m_ g s.heap aF es->(∀q∈aF,e.has q.1=true)->R):R:=
 az (S.5 _ _ f) λco z=>az (S.5 _ _ h) λi b=>by
  obtain⟨z,y⟩:=z;obtain⟨b,j⟩:=b;cases y;cases j with
  |cM _ _ es n r l=>exact k es n ⟨z,rfl,rfl,b⟩ r l
theorem adn(r:bH g h v a):handedIn a=true:=by cases r<;>rfl
theorem BL(b:bM g)(c:Cl)(n:PySem.Str):plainGet g.K (gS c) n=true:=b.ck.8 c
theorem WE(e:xh A v n=some x){R:Prop}(k:∀a c d g aF,v=.ref a->A a=some (.dB c d)->A d=some (.cM g aF)->c.has n=true->kq aF n=some x->R):R:=by
 cases v with
 |ref a=>
  have e:(match A a with|some (.dB c d)=>(match A d with|some (.cM _ aF)=>if c.has n then kq aF n else none|_=>none)|_=>none)=some x:=e
  cases q:A a with
  |none=>rw[q]at e;exact nn e
  |some o=>cases o with
   |dB c d=>
    rw[q]at e;have e:(match A d with|some (.cM _ aF)=>if c.has n then kq aF n else none|_=>none)=some x:=e
    cases b:A d with
    |none=>rw[b]at e;exact nn e
    |some o=>cases o with
     |cM g aF=>
      rw[b]at e;have e:(if c.has n then kq aF n else none)=some x:=e
      by_cases f:c.has n=true
      .rw[bA f]at e;exact k _ _ _ _ _ rfl q b f e
      .rw[bx f]at e;exact nn e
     |_=>rw[b]at e;exact nn e
   |_=>rw[q]at e;exact nn e
 |_=>exact nn e
theorem WH{b:bM g}{L:bQ g}(S:aN L q A s)(t:TL h s.heap)(r:bH g s.heap v f)(e:xh A v n=some x)(z:Q x A):b.wp (getAttr f n.S expr) (eD L q h Q) s:=
 WE e λa c d p aF ev i j l ex=>by
  refine gn λm=>?_;subst ev;cases r;refine m<|S.dB i j λes k o r w=>(Of r n).elim (λy=>cF y λu f y=>?_) λy=>nomatch y.1.symm.trans ex
  cases y.1.symm.trans ex;exact get_value S.kn o (plainGet_of (BL b c n.S)).1 (findObj_own (b.ck.9 c) (b.ck.10 c n.str l) rfl y.2.1) (adn y.2.2) (.at t z S.r7 y.2.2)
theorem zv(b:mz v=true)(aC:PySem.Str)(av:Env)(a:Sem Value):attributeBase v aC av a=a:=by
 cases v with
 |Call=>exact nf b
 |_=>rfl
theorem agd(x:bz b a p)(c:mz p=true):bz b (.aC a n) (.Attribute p n.S pos):=λL q A Q s ko he S=>
 Attribute_any_ (x.then ko he S λz t S r=>az z λy z=>WH S t r z.1 z.2) (by
  show(do let o<-attributeBase p n.S L.av (eval p L.av);standAt pos.atName;let r<-holding [o] (getAttr o n.S true);letTemporaryGo p o r;pure r)=_
  simp only[zv c])
def tZ(g:Gd)(f:Value):Prop:=∀h,g.K.In h->∃k,(k=Keeper.frame\/k=Keeper.machine\/k=Keeper.boundFrame)/\Looks (model g.prog g.w) h (keeperOf f) k
theorem Fn:tZ g (.builtin i):=λY Y=>⟨.machine,.inr (.inl rfl),Looks.of_pure rfl⟩
theorem aeN:tZ g (.type i):=λY Y=>⟨.machine,.inr (.inl rfl),Looks.of_pure rfl⟩
theorem Oc(b:bM g)(f:aJ):tZ g (.ref (fi f)):=λY a7=>keeps_K (b.ck.6 f).2.2 _ a7
theorem Fm(hf:sG f=some a):tZ g a:=by
 have:=iI.mp (by decide+kernel:zt.all (λp=>match p.2 with|.builtin _=>true|.type _=>true|_=>false)=true) _ (ji hf)
 cases a with
 |builtin=>exact Fn
 |type=>exact aeN
 |_=>exact nf this
def Args(b:bM g)(es:List a7)(ps:List Expr):Prop:=Q3
 (es.length=ps.length)
 (ps.all fI=true)
 (t8 b es ps)
theorem Args.nil:Args b [] []:=⟨rfl,rfl,Pw⟩
theorem Args.cons(c:fI p=true)(x:bz b a p)(y:Args b es ps):Args b (a::es) (p::ps):=⟨aP Nat.succ y.1,(jC _ _).mpr ⟨c,y.2⟩,Gh c x y.3⟩
theorem F5(av:Env)(pos:Pos):∀{ps:List Expr},ps.all fI=true->(backTo pos (starEach ps av)).any (·.1)=false
 |[],_=>rfl
 |p::ps,h=>by
  rw[vK (gK h).1];exact F5 av pos (gK h).2
theorem wD{b:bM g}{L:bQ g}(d:tZ g f)(ha:Args b es ps)(ko:gP b.kd L.av)(c:Es b.C es q.bK A Q)(S:aN L q A s)
 (k:∀{E aj A a},E.length=es.length->Q E A->TL s.heap a.heap->aN L q A a->bX g a.heap E aj->b.wp (call f (first++aj)) R a):b.wp (callWith pos f first (backTo pos (starEach ps L.av)) []) R s:=
 callWith_of (by refine B (F5 _ _ ha.2) ?_;rfl) d (by
  cases ps with
  |nil=>
   cases es with
   |cons=>exact nomatch ha.1
   |nil=>exact evalArgs_nil3 ⟨S.kn,k rfl c .refl S .nil⟩
  |cons p ps=>
   haveI x:=ha.3 L q A Q s pos ko c S;rw[vK (gK ha.2).1]at x⊢;exact evalArgs_plain (dD x λr=>r.rec λE A z t S r=>⟨S.kn,k z.1 z.2 t S r⟩))
theorem bM.Qh(b:bM g):nV b.k b.aa:=aS b.hh (aV (jK _ 2) b.hd) (aV (jK _ 20) b.hu)
theorem IA{b:bM g}{L:bQ g}(t:TL h s.heap)(a:b.C f E A Q)(S:aN L q A s)(r:bX g s.heap E aj)(hf:f≠.m9):b.wp (PySem.call (.ref (fi f)) aj) (eD L q h Q) s:=
 yO t (wpAny_call (codeAny_mono (b.hC f E A Q L q s aj b.aa b.Qh a S (.inl ⟨hf,r⟩)) λr c x=>by
  cases r with
  |ok fl=>cases fl with
   |ret=>exact x
   |_=>exact x.elim
  |error e=>exact x.elim))
theorem agi(ha:Args b es ps)(a:iQ b.kd f.nm=true)(hf:f.cls.isNone=true):bz b (.call f es) (.Call (.Name (PS f.nm) np) ps [] pos):=λL q A Q s ko c S=>
 Call_ (xi S ko a (Aa f) (b.ck.3 f (Option.isNone_iff_eq_none.mp hf)) (wD (Oc b f) ha ko c S λY z t S r=>IA t z S r λe=>by rw[e]at hf;exact nf hf))
theorem OZ{f:aJ}(h:f.cls.any (Cl.n9 c)=true):c.fields.contains f.nm=false:=by
 haveI:=iI.mp (aJ.mV (p:=λf=>[Cl.heap,.aO,.cK].all λc=>!(f.cls.any (Cl.n9 c))|| !(c.fields.contains f.nm)) (by decide+kernel) f) c (by clear h;cases c<;>simp)
 rw[h]at this;exact(lT _).mp this
theorem O0{b:bM g}{L:bQ g}(d:mz o=true)(e:(ap.endLine==pos.line)=true)(ns:ps.all fI=true)(len:ps.length<=8)
 (k:b.wp (eval o L.av) (λa f=>b.wp (getMethod a n (do return (<-importBound o L.av).getD true)) (λc h=>b.wp (callWith pos c.1 c.2 (backTo pos (starEach ps L.av)) []) Q h) f) s):b.wp (eval (.Call (.Attribute o n ap) ps [] pos) L.av) Q s:=by
 refine MethodCall_ k ?_;show(do
  let a<-attributeBase o n L.av (eval o L.av)
  standAt ap.atName
  methodCall o n ap pos L.av a (ps.length+0) (backTo pos (starEach ps L.av)) [])=_
 haveI i:methodCallForm (ps.length+0) (backTo pos (starEach ps L.av)) []=true:=by
  unfold methodCallForm;haveI j:(backTo pos (starEach ps L.av)).all (λx=>!x.1)=true:=by
   haveI:=F5 L.av pos ns;refine List.all_eq_not_any_not.trans ?_;simp only[Bool.not_not];refine B this ?_;rfl
  simp only[j,List.all_nil,List.isEmpty_nil,if_true,Bool.true_and,decide_eq_true_eq];lia
 haveI hp:methodCallPos true o L.av ap pos=pure pos:=by unfold methodCallPos;refine B e ?_;rfl
 rw[zv d]
 congr 1;funext a;congr 1;funext _
 unfold methodCall calleeOf;refine B i<|B hp ?_
 rfl
theorem agu(x:bz b o v)(a:mz v=true)(ha:Args b es ps)(hf:f.cls.any (Cl.n9 cl)=true)(c:(ap.endLine==pos.line)=true)(len:es.length<=8)(hi:f.nm≠"__init__"):
 bz b (.aZ o cl f es) (.Call (.Attribute v (PS f.nm) ap) ps [] pos):=λL q A Q s ko g S=>
 O0 a c ha.2 (ha.1▸len) (x.then ko g S λz t S r=>by
  refine gn λh=>?_;obtain⟨⟨p,d,aF,rfl,i,j⟩,z⟩:=z;cases r;refine h<|S.dB i j λsQ n k l m=>method_fn S.kn k (plainGet_of (BL b cl (PS f.nm))).1 (plainGet_of (BL b cl (PS f.nm))).2 (b.ck.5 cl f (λe=>hi (by refine B e ?_;rfl)) hf) (bq (b.ck.6 f).1) ?_ (wD (Oc b f) ha ko z S λY z J S r=>IA (t.trans J) z S (.cons _ _ _ _ (.ref p) r) λe=>hi (by refine B e ?_;rfl))
  show(lookIn (PS f.nm) (dictOf sQ n)).map _=_;simp only[lookIn_dict,Og l (OZ hf) m];rfl)
theorem bX.get:∀{aj:List Value},bX g h E aj->∀(k:Nat) x,E[k]? =some x->∃y,aj[k]? =some y/\bH g h x y:=by
 induction E with
 |nil=>intro aj r k x e;exact nn e
 |cons v E ih=>
  intro aj r k x e;refine r.ie λc cs a r=>?_;cases k with
  |zero=>injection e with e;subst e;exact⟨c,rfl,a⟩
  |succ k=>exact ih r k x e
theorem bX.append(r':bX g h b d):∀{aj:List Value},bX g h E aj->bX g h (E++b) (aj++d):=by
 induction E with
 |nil=>exactλr=>r.jz r'
 |cons v E ih=>exactλr=>r.ie λc cs a r=>.cons _ _ _ _ a (ih r)
theorem bX.cC(a:bH g h x y):bX g h [x] [y]:=.cons _ _ _ _ a .nil
theorem bX.set(a:bH g h v b):∀{aj:List Value},bX g h E aj->∀k:Nat,bX g h (E.set k v) (aj.set k b):=by
 induction E with
 |nil=>exactλr k=>r.jz .nil
 |cons x E ih=>
  intro aj r k;refine r.ie λc cs d r=>?_;cases k with
  |zero=>exact .cons _ _ _ _ a r
  |succ k=>exact .cons _ _ _ _ d (ih r k)
theorem bX.drop:∀{aj:List Value},bX g h E aj->∀k:Nat,bX g h (E.drop k) (aj.drop k):=by
 induction E with
 |nil=>exactλr k=>r.jz (by simp only[List.drop_nil,List.drop_nil];exact .nil)
 |cons x E ih=>
  intro aj r k;cases k with
  |zero=>exact r
  |succ k=>exact r.ie λc cs a r=>ih r k
theorem bX.take:∀{aj:List Value},bX g h E aj->∀k:Nat,bX g h (E.take k) (aj.take k):=by
 induction E with
 |nil=>exactλr k=>r.jz (by simp only[List.take_nil,List.take_nil];exact .nil)
 |cons x E ih=>
  intro aj r k;cases k with
  |zero=>exact .nil
  |succ k=>exact r.ie λc cs a r=>.cons _ _ _ _ a (ih r k)
theorem yy(e:mZ n i=some k){R:Prop}(a:0<=i->i<n->k=i.toNat->R)(b:i<0->-(n:Int)<=i->k=(i+n).toNat->R):R:=by
 unfold mZ at e
 split at e
 .split at e
  .injection e with e;subst e;exact a ‹_› ‹_› rfl
  .exact nn e
 .split at e
  .injection e with e;subst e;exact b (Int.not_le.mp ‹_›) (by lia) rfl
  .exact nn e
theorem Dm{n:Nat}{i:Int}(a:n<=16777216):i<n->i<2^63:=by lia
theorem Dp{n:Nat}{i:Int}(a:n<=16777216): -(n:Int)<=i->-(2^63)<=i:=by lia
theorem sE:bf<=16777216:=bt rfl
theorem lG{h:Heap}(e:h.get? a=some (eT aj n)):h.IsList a aj.toArray:=⟨_,e,rfl,n,rfl⟩
theorem tc(e:h.get? a=some (fV aj n)):IsTup h a aj.toArray:=⟨_,e,rfl,n,rfl⟩
theorem te{h:Heap}(e:h.get? a=some (fV aj n)):h.IsTuple a aj.toArray:=⟨_,e,rfl,n,rfl⟩
theorem wj{aj:List Value}{k:Nat}(e:aj[k]? =some x):aj.toArray[k]? =some x:=by rwa[List.getElem?_toArray]
theorem H6(a c:List Value):a.toArray++c.toArray=(a++c).toArray:=List.append_toArray ..
theorem GR(a:fI j=true)(o i:Value):subscripted j false o i=operate [o,i] (getItem o i):=by cases j<;>first|rfl|exact nf a
theorem WG{b:bM g}{L:bQ g}(S:aN L q A s)(t:TL h s.heap)(r:bH g s.heap v C)(e:NY A v i Q)(o:∀x,Q x->R x A)(w:fI j=true):b.wp (subscriptTail p j C (.int i k)) (eD L q h R) s:=by
 cases v with
 |aE E=>exact cF e λn x z=>r.m6 λa aj m f cr l=>az (cr.get n x z.2.1) λy u=>
  haveI nl:=B cr.len l
  item_tupleT (tc f) (yy z.1 (λa Y Y=>by lia) λY a Y=>Dp nl a) (yy z.1 (λY a Y=>Dm nl a) λa Y Y=>by lia) (cr.len▸yy z.1 (λa c d=>d▸seqIndex_of a c) λa c d=>B d (PySem.seqIndex_neg a c)) u.1 (.at t (o x z.2.2) S u.2) (GR w _ _)
 |ref a=>
  refine gn λG=>d7 e λE n x z=>?_;cases r;refine G<|S.ref z.1 λaj m f cr=>az (cr.get n x z.2.2.2.1) λy u=>?_;haveI nl:=aV z.2.1 sE;exact tail_any (lG f).typeIs list_getitem_lookup (yy z.2.2.1 (λa c d=>wpAny_getItem_list (lG f) a (Dm nl c) (wj (aT d u.1)) (.at t (o x z.2.2.2.2) S u.2)) λa c d=>wpAny_getItem_list_neg (lG f) a (by refine B gN ?_;refine aT cr.len ?_;exact c) (Dp nl c) (wj (by refine B gN ?_;refine aT cr.len ?_;exact aT d<|u.1)) (.at t (o x z.2.2.2.2) S u.2)) (GR w _ _)
 |_=>exact e.elim
theorem agp(x:bz b a l)(y:bz b c j)(d:fI j=true):bz b (.aQ a c) (.Subscript l j pos):=λL q A Q s ko he S=>
 Subscript_ (bz.eM x y ko he S λz t S e f=>f.AY z λi k z=>WG S t e z (λY h=>h) d)
theorem I5{K:Type}[DecidableEq K]{aF:List (K×V)}{es:List (K×Value)}(r:kc g h aF es)(k:K):(∃v b,n7 aF k=some v/\valueAt es k=some b/\bH g h v b)\/n7 aF k=none/\valueAt es k=none:=by
 induction r with
 |nil=>exact .inr ⟨rfl,rfl⟩
 |cons x v b aF es a _ ih=>
  rw[show n7 ((x,v)::aF) k=if x=k then some v else n7 aF k from rfl]
  unfold valueAt;refine B List.find?_cons ?_;by_cases z:x=k
  .rw[bA z,cO z];exact .inl (cE v b (aS rfl rfl a))
  .exact B (bx z)<|B (dp z)<|ih
theorem Hr(a b:String):decide (PS a=PS b)=decide (a=b):=decide_eq_decide.mpr ⟨yt,aP PS⟩
theorem aju(es:List (String×Value))(k:String):valueAt (pZ es) (PS k)=valueAt es k:=by
 induction es with
 |nil=>rfl
 |cons p es ih=>
  unfold valueAt;show Option.map _ (List.find? _ ((PS p.1,p.2)::pZ es))=_;refine B List.find?_cons ?_;refine B List.find?_cons ?_;rw[Hr];cases decide (p.1=k)
  .exact ih
  .rfl
theorem agn{b:bM g}(x:bz b a l)(y:bz b c j)(e:fI j=true):bz b (.rn a c) (.Subscript l j pos):=λL q A Q s ko he S=>
 Subscript_ (bz.eM x y ko he S λz t S f h=>gz z λp aF k y z=>f.kQ z.1 (h.tP z.2.1 λtk=>S.dS z.2.2.1 λes d dr=>(I5 dr k).elim (λu=>cF u λu cu u=>by
  cases u.1.symm.trans z.2.2.2.1;exact tail_any d.typeIs slot_dict_getitem.lookup (wpAny_getItem_of (strKind_is g.prog g.w (PS k) tk) d.mapOf (by rw[aju];exact u.2.1) (.at t z.2.2.2.2 S.r7 u.2.2)) (GR e _ _)) λu=>nomatch u.1.symm.trans z.2.2.2.1))
theorem aN.Bk{L:bQ g}(S:aN L q A s)(a:D≠L.ae/\g.gB.get? D=none)(lt:∀p∈Mp.mq g.gB L.ae [] s.heap,p.1<D):s.heap.get? D=none:=jT λo e=>Nat.lt_irrefl _ (lt (D,o) (vk.mpr (cg e a.1 gh a.2)))
theorem eD.FH{L:bQ g}(t:TL h s.heap)(S:aN L q A s)(z:jg A E Q)(r:bX g s.heap E aj)(c:s.heap.get? D=none)(k:∀b o,b≠L.ae->s.heap.get? b=some o->a.get? b=some o)(ns:a.Ns L.ae q.m0)(e:a.get? D=some (eT aj n)):eD L q h Q (.ref D) {s with heap:=a,toks:=tk}:=
 ⟨_,_,z _ (S.eC c).1,t.trans (S.oY k),S.add (.list E aj n r) c k ns e (λY h=>nomatch h),.ref _⟩
theorem eD.ajg{L:bQ g}(t:TL h s.heap)(S:aN L q A s)(z:Q (.aE E) A)(r:bX g s.heap E aj)(l:aj.length<=16777216)(k:∀b o,b≠L.ae->s.heap.get? b=some o->a.get? b=some o)(ns:a.Ns L.ae q.m0)(e:a.get? D=some (fV aj n)):eD L q h Q (.ref D) {s with heap:=a,toks:=tk}:=
 haveI J:=S.oY k
 ⟨_,A,z,t.trans J,S.step k ns,.aE D E aj n l e (r.b_ J)⟩
theorem Ck(e:m=a)(b:n=c)(k:m+n<=bf):a+c<=sizeLine:=B sizeLine_eq<|aT e<|aT b<|aV k sE
theorem yv(e:m=a)(k:m<=bf):a<=sizeLine:=B sizeLine_eq<|aT e<|aV k sE
theorem agj(x:bz b a l)(y:bz b c r):bz b (.lA a c) (.BinOp l .Add r pos):=λL q A Q s ko he S=>
 wpAny_BinOp (bz.eM x y ko he S λz t S e f=>gz z λj k E ws z=>e.kQ z.1 (f.kQ z.2.1 (S.ref z.2.2.1 λaj n g cr=>S.ref z.2.2.2.1 λh m i d=>
  P.add_list g i (H6 aj h▸eD.list t S z.2.2.2.2.2 (d.append cr)) (B gN<|B gN<|Ck cr.len d.len z.2.2.2.2.1))))
theorem O8(r:bX g h E aj)(e:aj=[]):E=[]:=List.eq_nil_of_length_eq_zero (r.len.trans (aP List.length e))
theorem agG{b:bM g}(x:bz b a l)(y:bz b c r):bz b (.qJ a c) (.BinOp l .Add r pos):=λL q A Q s ko he S=>
 wpAny_BinOp (bz.eM x y ko he S λz t S m o=>cF z λE ws z=>by
  have i:=z.1▸m;have j:=z.2.1▸o;haveI f:=i;haveI h:=j;refine i.m6 (λv aj n p cr w f=>?_) f;refine j.m6 (λC G I u d J h=>?_) h;have k:=z.2.2.1;refine add_tuples S.fr (S.mq []) (tc p) (tc u) (λe=>.at t ?_ S h) (λY e=>.at t ?_ S f) (λY Y M F N=>.ajg t S z.2.2.2 (d.append cr) ?_ (S.vf F N) F.ns (N _ (bE ..)).1) (Ck cr.len d.len k)
  .have:=z.2.2.2;rwa[O8 cr e,List.nil_append]at this
  .haveI:=z.2.2.2;rwa[O8 d e,fQ]at this
  .haveI:=Ck cr.len d.len k;rwa[sizeLine_eq,<-cx]at this)
@[elab_as_elim]theorem R6 {L:bQ g} (S:aN L q A s) (r:bH g s.heap v b) (e:H5 A v E) {P:Value->Prop} (k:∀a aj n,s.heap.get? a=some (eT aj n)->bX g s.heap E aj->P (.ref a)):P b:=by
 cases r with
 |ref a=>exact S.ref e λaj n c cr=>k a aj n c cr
 |args a xs aj n m r=>subst e;exact k a aj n (S.2 _ _ (L.dM _ _ (g.arg _ m))) r
 |_=>exact e.elim
theorem aid{xs:List Value}(h:0<=k):slicePick xs.toArray none (some k) none=(xs.take k.toNat).toArray:=by
 haveI:=slicePick_upto' xs.toArray k.toNat;rw[Int.toNat_of_nonneg h]at this;exact this
theorem aic{xs:List Value}(h:0<=k):slicePick xs.toArray (some k) none none=(xs.drop k.toNat).toArray:=by
 haveI:=slicePick_from' xs.toArray k.toNat;rw[Int.toNat_of_nonneg h]at this;exact this
theorem IW{g:Gd}{L:bQ g}{q:Lq}{A:H}{s:Shared}{h:Heap}{ws:List V}{aj:List Value}{Q:V->H->Prop}(S:aN L q A s){lo hi st:Value}{ys:List Value}{a:Addr}{n:Nat}{sl:Expr}(t:TL h s.heap)(b:s.heap.get? a=some (eT aj n))(z:jg A ws Q)(r:bX g s.heap ws ys):
 (s.heap.push {cls:=.type "slice",data:=.fields #[lo,hi,st]}).IsList a aj.toArray/\eD L q h Q (.ref (s.heap.push {cls:=.type "slice",data:=.fields #[lo,hi,st]}).objs.size) {s with heap:=(s.heap.push {cls:=.type "slice",data:=.fields #[lo,hi,st]}).push (eT ys 0)}:=
 haveI k:=hX s.heap {cls:=.type "slice",data:=.fields #[lo,hi,st]}
 ⟨(lG b).push _,.list (s:={s with heap:=s.heap.push {cls:=.type "slice",data:=.fields #[lo,hi,st]},toks:=s.toks}) (t.trans (.of k)) (S.jS k) z (r.b_ (.of k))⟩
theorem agH{g:Gd}{b:bM g}{a c:a7}{l j:Expr}{pos:Pos}{sp:Pos}(x:bz b a l)(y:bz b c j):bz b (.nS a c) (.Subscript l (.Slice none (some j) none sp) pos):=λL q A Q s ko he S=>
 Subscript_ (x.then ko he S λz t S d=>wpAny_Slice (dX (y.then ko z S λz J S e=>dX (cF z λE k z=>e.iD z.2.2.1 λtk=>R6 S (d.b_ J) z.1 λa aj n f cr=>by
  haveI m:=IW (lo:=.none) (hi:=.int k tk) (st:=.none) (sl:=l) S (t.trans J) f z.2.2.2.2.2 (cr.take k.toNat);exact tail_any m.1.typeIs list_getitem_lookup (wpAny_getItem_list_slice m.1 (Heap.IsSliceOf.new ..) .none (.int k tk) .none (by simp) (B (aid z.2.2.2.1) m.2) (yv cr.len z.2.1)) rfl))))
theorem agm{g:Gd}{b:bM g}{a c:a7}{l j:Expr}{pos:Pos}{sp:Pos}(x:bz b a l)(y:bz b c j):bz b (.from a c) (.Subscript l (.Slice (some j) none none sp) pos):=λL q A Q s ko he S=>
 Subscript_ (x.then ko he S λz t S d=>wpAny_Slice (y.then ko z S λz J S e=>dX (dX (d7 z λh E k z=>e.iD z.2.2.2.1 λtk=>bH.kQ z.1 (d.b_ J) (S.ref z.2.1 λaj n f cr=>by
  haveI m:=IW (lo:=.int k tk) (hi:=.none) (st:=.none) (sl:=l) S (t.trans J) f z.2.2.2.2.2.2 (cr.drop k.toNat);exact tail_any m.1.typeIs list_getitem_lookup (wpAny_getItem_list_slice m.1 (Heap.IsSliceOf.new ..) (.int k tk) .none .none (by simp) (B (aic z.2.2.2.2.1) m.2) (yv cr.len z.2.2.1)) rfl)))))
theorem Dx{b:bM g}{L:bQ g}(hf:sG f=some c)(d:iQ b.kd f=true)(ha:Args b es ps)(ko:gP b.kd L.av)(e:Es b.C es q.bK A h)(S:aN L q A s)
 (k:∀{E aj A a},E.length=es.length->h E A->TL s.heap a.heap->aN L q A a->bX g a.heap E aj->b.wp (call c aj) R a):b.wp (eval (.Call (.Name (PS f) np) ps [] pos) L.av) R s:=
 Call_ (Dt S ko d hf (wD (Fm hf) ha ko e S k))
theorem afO(a:Int):(if a<0 then-a else a)=(a.natAbs:Int):=by split<;>lia
@[elab_as_elim]theorem Qn {L:bQ g} (S:aN L q A s) (r:bH g s.heap v c) (e:tJ A v R) {P:Value->Prop} (d:∀a E aj n,v=.aE E->bH g s.heap v (.ref a)->s.heap.get? a=some (fV aj n)->bX g s.heap E aj->aj.length<=16777216->R E->P (.ref a)) (f:∀a E aj n,s.heap.get? a=some (eT aj n)->bX g s.heap E aj->aj.length<=16777216->R E->P (.ref a)):P c:=by
 cases v with
 |aE E=>exact r.m6 (λa aj n b cr h r=>d a E aj n rfl r b cr h e) r
 |ref a=>exact bH.kQ rfl r (az e λE z=>S.ref z.1 λaj n b cr=>f a E aj n b cr (aT cr.len (aV z.2.1 sE)) z.2.2)
 |_=>exact e.elim
theorem ajn{b:bM g}{L:bQ g}(S:aN L q A s)(hf:sG f.nm=some o)(t:TL h s.heap)(r:bH g s.heap v p)(e:vN A f v Q):b.wp (call o [p]) (eD L q h Q) s:=by
 haveI sz:∀{n:Nat},n<=16777216->n<=sizeLine:=λk=>B sizeLine_eq k;cases f with
 |len=>
  cases hf;cases v with
  |aE E=>exact r.m6 λa aj n d cr j=>PyProof.Rows.len_tuple (tc d) (by refine B gN ?_;lia) (B gN<|aT cr.len<|.int t e S)
  |ref a=>exact bH.kQ rfl r (az e λE z=>S.ref z.1 λaj n d cr=>PyProof.Rows.len_list (lG d) (by rw[gN];have:=cr.len▸aV z.2.1 sE;lia) (B gN<|aT cr.len<|.int t z.2.2 S))
  |_=>exact e.elim
 |abs=>
  cases hf;cases v with
  |int i=>exact bH.iD rfl r λY=>call_abs_int λu tk=>by rw[afO];exact .int t e S
  |_=>exact e.elim
 |int=>
  cases hf;cases v with
  |int i=>exact bH.iD rfl r λk=>call_int_int (.at t e S (.int _ k))
  |_=>exact e.elim
 |tuple=>
  cases hf;have l:tJ A v λE=>Q (.aE E) A:=by clear r;cases v<;>exact e
  exact Qn S r l (λa E aj n ev r d cr j z=>call_tuple_tup (tc d) (.at t z S (aT ev r))) λa E aj n d cr j z=>
   call_tuple_list (lG d) (λm k=>.aE (s:={s with heap:=m,toks:=s.toks}) (t.trans (.of k)) (S.jS k) z j (cr.b_ (.of k))) (by rw[gN];exact sz j)
 |list=>
  cases hf;have l:tJ A v λE=>jg A E Q:=by clear r;cases v<;>exact e
  exact Qn S r l (λa E aj n Y Y d cr j z=>list_copyKT S.fr (S.mq []) (tc d) (λD c m F N lt=>.FH t S z cr (S.Bk (N _ (bE ..)).2 lt) (S.vf F N) F.ns (N _ (bE ..)).1) (B gN (sz j)))
   λa E aj n d cr j z=>list_copyK S.fr (S.mq []) (lG d) (λD c m F N lt=>.FH t S z cr (S.Bk (N _ (bE ..)).2 lt) (S.vf F N) F.ns (N _ (bE ..)).1) (by rw[gN];exact sz j)
theorem Po(d:iQ b.kd f.nm=true)(j:fI p=true)(x:bz b a p):bz b (.b1 f a) (.Call (.Name (PS f.nm) np) [p] [] pos):=λL q A Q s ko he S=>
 have e:Es b.C [a] q.bK A λE A=>∃v,E=[v]/\vN A f v Q:=by
  haveI h:aB b.C a q.bK A λv A=>vN A f v Q:=he;show aB b.C a q.bK A λv A=>∃g,[v]=[g]/\vN A f g Q;simpa only[List.cons.injEq,and_true,exists_eq_left'] using h
 az (by clear d he e;cases f<;>exact⟨_,rfl⟩:∃i,sG f.nm=some i) λi hf=>Dx hf d (.cons j x .nil) ko e S λY z t S r=>az z λv z=>by
  cases z.1;exact r.ie λc cs r rs=>rs.jz (ajn S hf t r z.2)
theorem Rh(i j:Int):vO .max i j=(if j>i then j else i)/\vO .min i j=if j<i then j else i:=by
 show max i j=_/\min i j=_;rw[Int.max_def,Int.min_def];refine⟨?_,?_⟩<;>(split<;>split<;>lia)
theorem N_[Decidable c]{R:Value->Prop}(h:∀k,R (.int (if c then i else j) k)):R (if c then .int i k else .int j m):=by
 split
 .haveI:=h k;rwa[bA ‹_›]at this
 .haveI:=h m;rwa[bx ‹_›]at this
theorem age(d:iQ b.kd f.nm=true)(l:fI p=true)(hm:fI r=true)(x:bz b a p)(y:bz b c r):bz b (.b2 f a c) (.Call (.Name (PS f.nm) np) [p,r] [] pos):=λL q A Q s ko he S=>by
 have e:Es b.C [a,c] q.bK A λE A=>∃v x,E=[v,x]/\∃i j,v=.int i/\x=.int j/\Q (.int (vO f i j)) A:=by
  haveI h:aB b.C a q.bK A λv A=>aB b.C c q.bK A λx A=>∃i j,v=.int i/\x=.int j/\Q (.int (vO f i j)) A:=he;show aB b.C a q.bK A λv A=>aB b.C c q.bK A λx A=>∃n o,[v,x]=[n,o]/\_;simpa only[List.cons.injEq,and_true,exists_eq_left',exists_and_left,and_assoc] using h
 refine az (by clear d he e;cases f<;>exact⟨_,rfl⟩:∃g,sG f.nm=some g) λg hf=>Dx hf d (.cons l x (.cons hm y .nil)) ko e S λY z t S u=>cF z λv w z=>?_
 cases z.1;refine u.ie λM cs G rs=>rs.ie λN cs I rs=>rs.jz (G.xZ z.2 I λi j P W z=>?_);cases f with
 |max=>cases hf;exact max_two_ints b.hh λJ tk k=>N_ (R:=λy=>eD L q s.heap Q y _) λm=>(Rh i j).1▸⟨_,_,z,t.trans (.of k),S.jS k,.int _ m⟩
 |min=>cases hf;exact min_two_ints b.hh λJ tk k=>N_ (R:=λy=>eD L q s.heap Q y _) λm=>(Rh i j).2▸⟨_,_,z,t.trans (.of k),S.jS k,.int _ m⟩
theorem Jz:(Es C [a] l A λws A=>∃w,ws=[w]/\Q w A)=aB C a l A Q:=aP (aB C a l A) (funext λv=>funext λA=>propext ⟨λ⟨w,e,h⟩=>by cases e;exact h,λh=>⟨v,rfl,h⟩⟩)
theorem VR{P:H->Prop}:(Es C [] l A λus A=>us=[]/\P A)=P A:=propext ⟨λh=>h.2,λh=>⟨rfl,h⟩⟩
theorem FI{b:bM g}{L:bQ g}{name id:String}(x:bz b o p)(i:mz p=true)(ha:Args b es ps)(d:Slot "list" (PS name) id)(ty:typeOf (.builtin id)=pure (.type "method_descriptor"))(j:(ap.endLine==pos.line)=true)(len:ps.length<=1){f:V->List V->H->Prop}(ko:gP b.kd L.av)
 (l:aB b.C o q.bK A λv A=>(∃p,v=.ref p/\∃E,A p=some (.list E))/\Es b.C es q.bK A (f v)) (S:aN L q A s) (k:∀{p E aj A c},f (.ref p) E A->TL s.heap c.heap->aN L q A c->bX g c.heap E aj->b.wp (call (.builtin id) (.ref p::aj)) R c):b.wp (eval (.Call (.Attribute p (PS name) ap) ps [] pos) L.av) R s:=
 O0 i j ha.2 (aV len (by decide)) (x.then ko l S λz t S r=>aU z λm z=>az m λu y=>az y.2 λE e=>r.kQ y.1 (S.ref e λaj n h Y=>
  getMethod_builtin ⟨_,h,rfl⟩ F.plainAttrs_list d ty (λa e=>by injection e with e;subst e;exact⟨_,h,rfl⟩) (wD Fn ha ko (y.1▸z) S λY z J S r=>k z (t.trans J) S r)))
theorem aN.BE{L:bQ g}(S:aN L q A s)(e:A D=some (.list E))(hs:Heap.SameBut D s.heap a)(he:a.get? D=some (eT b n))(r:bX g s.heap ws b):aN L q (A.set D (.list ws)) {s with heap:=a,toks:=s.toks}:=
 S.aW e hs he (.list ws b n r) λY h=>nomatch h
theorem aN.tQ(S:aN L q A s)(e:A D=some c)(hs:Heap.SameBut D s.heap a):TL s.heap a:=S.tl (λb x n Y z=>(hs.2 b n).trans z) (S.vM e)
theorem afx(e:m=a)(k:m<bf):a<=sizeLine:=yv e (c9 k)
theorem agc(x:bz b o p)(y:bz b a r)(d:mz p=true)(hr:fI r=true)(e:(ap.endLine==pos.line)=true):bz b (.c8 o a) (.Call (.Attribute p (PS "append") ap) [r] [] pos):=λL q A Q s ko he S=>by
 haveI f:aB b.C o q.bK A λv A=>(∃p,v=.ref p/\∃E,A p=some (.list E))/\Es b.C [a] q.bK A λws A=>∃w,ws=[w]/\∃p E,v=.ref p/\A p=some (.list E)/\E.length<bf/\Q .none (A.set p (.list (E++[w]))):=by
  haveI h:aB b.C o q.bK A λv A=>(∃p,v=.ref p/\∃E,A p=some (.list E))/\aB b.C a q.bK A λw A=>∃p E,v=.ref p/\A p=some (.list E)/\E.length<bf/\Q .none (A.set p (.list (E++[w]))):=he;simpa only[Jz] using h
 refine FI x d (.cons hr y .nil) F.slot_list_append F.type_list_append e (dR 1) ko f S λ{i _ _ _ _} z t S r=>az z λw z=>cF z.2 λD E y=>?_;cases z.1;cases y.1;exact r.ie λc cs r rs=>rs.jz (S.ref y.2.1 λaj n g cr=>append_at g (λj hs he=>⟨_,_,y.2.2.2,t.trans (S.tQ y.2.1 hs),S.BE y.2.1 hs (he.trans (aP (λa=>some (seqObj "list" a (n+1))) (List.push_toArray ..))) (bX.append (.cC r) cr),.none⟩) (B gN (afx cr.len y.2.2.1)))
theorem agl(x:bz b o p)(y:bz b a r)(g:mz p=true)(hr:fI r=true)(i:(ap.endLine==pos.line)=true):bz b (.ext o a) (.Call (.Attribute p (PS "extend") ap) [r] [] pos):=λL q A Q s ko he S=>by
 haveI j:aB b.C o q.bK A λv A=>(∃p,v=.ref p/\∃E,A p=some (.list E))/\Es b.C [a] q.bK A λus A=>∃w,us=[w]/\∃p q E ws,v=.ref p/\w=.ref q/\p≠q/\A p=some (.list E)/\A q=some (.list ws)/\E.length+ws.length<=bf/\Q .none (A.set p (.list (E++ws))):=by
  haveI h:aB b.C o q.bK A λv A=>(∃p,v=.ref p/\∃E,A p=some (.list E))/\aB b.C a q.bK A λw A=>∃p q E ws,v=.ref p/\w=.ref q/\p≠q/\A p=some (.list E)/\A q=some (.list ws)/\E.length+ws.length<=bf/\Q .none (A.set p (.list (E++ws))):=he;simpa only[Jz] using h
 refine FI x g (.cons hr y .nil) F.slot_list_extend F.type_list_extend i (dR 1) ko j S λ{l _ _ _ _} z t S r=>az z λw z=>gz z.2 λD m E ws y=>?_;cases z.1;cases y.1;refine r.ie λc cs r rs=>rs.jz (r.kQ y.2.1 (S.ref y.2.2.2.1 λaj n d cr=>S.ref y.2.2.2.2.1 λe u G f=>?_));have I:=Ck cr.len f.len y.2.2.2.2.2.1;refine call_meets F.slot_list_extend ⟨_,d,rfl⟩ F.entry_list_extend (F.args_list_extend_2 _ _) (AutoSeq1.list_extend_list_list_0 l aj.toArray n m e.toArray u ?_ (by rw[gN];lia) (by rw[gN,gN];lia)) (aS d G ?_)
 .unfold Builtin.List.listTooLong;refine B gN<|B gN ?_;intro Y;lia
 .haveI k:=get?_update_seq d λxs=>xs++e.toArray;simp only[H6]at k;exact⟨_,_,y.2.2.2.2.2.2,t.trans (S.tQ y.2.2.2.1 (Heap.SameBut.update ..)),S.BE y.2.2.2.1 (Heap.SameBut.update ..) k (f.append cr),.none⟩
theorem agB(x:bz b o p)(d:mz p=true)(f:(ap.endLine==pos.line)=true):bz b (.qz o) (.Call (.Attribute p (PS "pop") ap) [] [] pos):=λL q A Q s ko he S=>by
 haveI g:aB b.C o q.bK A λv A=>(∃p,v=.ref p/\∃E,A p=some (.list E))/\Es b.C [] q.bK A λus A=>us=[]/\∃p E w,v=.ref p/\A p=some (.list (E++[w]))/\E.length<bf/\Q w (A.set p (.list E)):=by
  haveI h:aB b.C o q.bK A λv A=>(∃p,v=.ref p/\∃E,A p=some (.list E))/\∃p E w,v=.ref p/\A p=some (.list (E++[w]))/\E.length<bf/\Q w (A.set p (.list E)):=he;simpa only[VR] using h
 refine FI x d .nil F.slot_list_pop F.type_list_pop f (fw 1) ko g S λ{i _ _ _ _} z t S r=>d7 z.2 λD E w y=>?_;cases z.1;cases y.1;refine r.jz (S.ref y.2.1 λaj n a cr=>az (cr.get E.length w (by rw[lS (dR _),Nat.sub_self];rfl)) λj u=>?_)
 have len:aj.length=E.length+1:=by refine aT cr.len<|B cx ?_;rfl
 have sub:aj.toArray.size-1=E.length:=by refine B gN<|B len ?_;rfl
 refine call_meets F.slot_list_pop ⟨_,a,rfl⟩ F.entry_list_pop (F.args_list_pop_1 _) (MeetsSeq.list_pop_last i aj.toArray n j (B sub (wj u.1)) (B gN (yv len.symm y.2.2.1))) ⟨a,?_⟩;haveI k:=get?_update_seq a λxs=>xs.eraseIdxIfInBounds (aj.toArray.size-1);have e:aj.toArray.eraseIdxIfInBounds (aj.toArray.size-1)=(aj.take E.length).toArray:=by
  simp only[sub,List.eraseIdxIfInBounds_toArray,List.eraseIdx_eq_take_drop_succ,List.drop_of_length_le (by rw[len];exact dR _),fQ]
 simp only[e]at k;haveI c:=cr.take E.length;rw[List.take_left]at c;exact⟨_,_,y.2.2.2,t.trans (S.tQ y.2.1 (Heap.SameBut.update ..)),S.BE y.2.1 (Heap.SameBut.update ..) k c,u.2.b_ (S.tQ y.2.1 (Heap.SameBut.update ..))⟩
noncomputable def V.dd:V->PyData
 |.int i=>.int i
 |.bool b=>.bool b
 |_=>.none
noncomputable def V.dt:V->PyData
 |.aE E=>.tuple (E.map V.dd)
 |v=>v.dd
noncomputable def V.pH:V->Bool
 |.aE E=>E.all V.iB
 |v=>v.iB
theorem uA(e:V.sP v x=some b):v.iB=true/\x.iB=true/\PyData.eqv v.dd x.dd=b:=by
 cases v with
 |int=>cases x with
  |int=>exact aS rfl rfl ((Bool.eq_iff_iff.mpr (beq_iff_eq.trans k6.symm)).trans (dH e))
  |_=>exact nn e
 |bool=>cases x with
  |bool=>exact aS rfl rfl ((Bool.eq_iff_iff.mpr (beq_iff_eq.trans k6.symm)).trans (dH e))
  |_=>exact nn e
 |_=>exact nn e
theorem Jv:∀{ws:List V},V.l_ E ws=some b->PyData.eqvAll (E.map V.dd) (ws.map V.dd)=b:=by
 induction E with
 |nil=>intro ws e;cases ws with
  |nil=>exact dH e
  |cons=>exact dH e
 |cons v E ih=>intro ws e;cases ws with
  |nil=>exact dH e
  |cons w ws=>
   have e:(match V.sP v w with|some true=>V.l_ E ws|r=>r)=some b:=e
   show(PyData.eqv _ _&&PyData.eqvAll _ _)=b;cases q:V.sP v w with
   |none=>rw[q]at e;exact nn e
   |some c=>
    rw[q]at e;refine B ((uA q).2.2) ?_;cases c with
    |true=>exact ih e
    |false=>exact dH e
theorem zV{v:V}(h:v.iB=true):v.dt=v.dd/\v.pH=true:=by cases v<;>first|exact⟨rfl,rfl⟩|exact nf h
theorem Jx(e:V.eqv v x=some b){R:Prop}(f:∀p q,v=.str p->x=.str q->b=decide (p=q)->R)(d:v.pH=true->x.pH=true->PyData.eqv v.dt x.dt=b->R):R:=by
 have bZ:=λe=>d (zV (uA e).1).2 (zV (uA e).2.1).2 (B ((zV (uA e).1).1)<|B ((zV (uA e).2.1).1)<|(uA e).2.2);cases v with
 |aE a=>cases x with
  |aE c=>
   have e:(if a.all V.iB&&c.all V.iB then V.l_ a c else none)=some b:=e
   by_cases h:(a.all V.iB&&c.all V.iB)=true
   .rw[bA h]at e;exact d (gK h).1 (gK h).2 (Jv e)
   .rw[bx h]at e;exact nn e
  |_=>exact nn e
 |str=>cases x with
  |str=>exact f _ _ rfl rfl (dH e).symm
  |_=>exact nn e
 |_=>exact bZ e
theorem Vb{v:V}(f:v.iB=true):v.dd.canLay0=true/\v.dd.depth=0:=by clear f;cases v<;>first|exact⟨rfl,rfl⟩|cases f
theorem wQ:∀{E:List V},E.all V.iB=true->PyData.canLayAll0 (E.map V.dd)=true/\PyData.depthAll (E.map V.dd)=0
 |[],_=>⟨rfl,rfl⟩
 |v::E,f=>by
  have f:=(jC _ _).mp f;haveI a:=Vb f.1;haveI c:=wQ f.2;exact⟨(jC _ _).mpr ⟨a.1,c.1⟩,by show max _ _=0;refine B a.2<|B c.2 ?_;rfl⟩
theorem oE{v:V}(f:v.pH=true):v.dt.canLay0=true/\v.dt.depth<=1:=by
 cases v with
 |aE E=>exact⟨(wQ f).1,by show PyData.depthAll _+1<=1;exact B ((wQ f).2) (dR 1)⟩
 |_=>first|exact⟨rfl,fw _⟩|cases f
theorem wV:∀{E:List V},E.all V.pH=true->PyData.canLayAll0 (E.map V.dt)=true/\PyData.depthAll (E.map V.dt)<=1
 |[],_=>⟨rfl,fw _⟩
 |v::E,f=>by
  have f:=(jC _ _).mp f;haveI a:=oE f.1;haveI c:=wV f.2;exact⟨(jC _ _).mpr ⟨a.1,c.1⟩,Nat.max_le.mpr ⟨a.2,c.2⟩⟩
theorem Vc(f:v.iB=true)(r:bH g h v a):Reads h a v.dd []:=by cases r<;>first|exact .int _ _|exact .bool _|exact nf f
theorem DL:∀{aj:List Value},E.all V.iB=true->bX g h E aj->ReadsAll h aj (E.map V.dd) []:=by
 induction E with
 |nil=>exactλY r=>r.jz .nil
 |cons v E ih=>exactλf r=>r.ie λc cs a r=>.cons (Vc ((jC _ _).mp f).1 a) (ih ((jC _ _).mp f).2 r)
theorem sN(f:v.pH=true)(r:bH g h v b):Reads h b v.dt []:=by
 cases r with
 |aE a E aj n _ e r=>exact .tuple e rfl rfl (DL f r)
 |int=>exact .int _ _
 |bool=>exact .bool _
 |_=>exact nf f
theorem Je:∀{aj:List Value},E.all V.pH=true->bX g h E aj->ReadsAll h aj (E.map V.dt) []:=by
 induction E with
 |nil=>exactλY r=>r.jz .nil
 |cons v E ih=>exactλf r=>r.ie λc cs a r=>.cons (sN ((jC _ _).mp f).1 a) (ih ((jC _ _).mp f).2 r)
theorem Jd{v:V}(f:v.pH=true):SeqAt.shaped v.dt=true:=(jC _ _).mpr ⟨(oE f).1,cO (aV (oE f).2 (by decide))⟩
theorem I0{E:List V}(f:E.all V.iB=true):SeqAt.shaped (.list (E.map V.dd))=true:=(jC _ _).mpr ⟨(wQ f).1,cO (by show PyData.depthAll _+1<=64;refine B ((wQ f).2) ?_;decide)⟩
theorem bM.zY(b:bM g):b.aa.units+64<cLine:=by haveI:=b.hu;unfold cLine;lia
theorem Ue(a b:String):(PS a !=PS b)= !decide (a=b):=aP not (zy a b)
theorem kF{R:Value->Shared->Prop}(k:R (.bool (c !=false)) s):R (.bool c) s:=B (Bool.bne_false c).symm k
theorem kT{R:Value->Shared->Prop}(k:R (.bool (c !=true)) s):R (.bool !c) s:=B (Bool.bne_true c).symm k
theorem Jt{b:bM g}(a:Reads s.heap e x as)(c:Reads s.heap f y bs)(ha:SeqAt.shaped x=true)(d:SeqAt.shaped y=true)(k:R (.bool (PyData.eqv x y !=ne)) s):b.wp (compareOp (p_ ne) e f) R s:=by
 cases ne with
 |false=>exact eq_dataH a c ha d b.zY (kF k)
 |true=>exact ne_dataH a c ha d b.zY (kT k)
theorem VN{b:bM g}(a:bH g s.heap v d)(c:bH g s.heap w f)(he:V.eqv v w=some e)(k:R (.bool (e !=ne)) s):b.wp (compareOp (p_ ne) d f) R s:=
 Jx he (λp q h i j=>a.tP h λY=>bH.tP i c λY=>by
  subst j;cases ne with
  |false=>exact PyProof.Rows.eq_str (B (zy _ _) (kF k))
  |true=>exact PyProof.Rows.ne_str (B (Ue _ _) (kT k))) λf1 f2 z=>Jt (sN f1 a) (sN f2 c) (Jd f1) (Jd f2) (B z k)
theorem agJ(x:bz b a l)(y:bz b c r):pj b (.eq ne a c) l (p_ ne) r:=λL q A Q s ko he S=>bz.eM x y ko he S λz t S d f=>az z λe z=>VN d f z.1 (.at t z.2 S (.bool _))
theorem HY{E:List V}(f:∀x∈E,∃i,x=V.int i):E.all V.iB=true:=iI.mpr λy a=>az (f y a) λi e=>by refine B e ?_;rfl
theorem agK(x:bz b a l)(y:bz b c r):pj b (.p9 ne a c) l (p_ ne) r:=λL q A Q s ko he S=>bz.eM x y ko he S λz t S d f=>jD z λj k E ws e z=>d.kQ z.1 (f.kQ z.2.1 (S.ref z.2.2.1 λaj n g cr=>S.ref z.2.2.2.1 λm o h i=>
 haveI f1:=HY z.2.2.2.2.2.2.1;haveI f2:=HY z.2.2.2.2.2.2.2.1
 Jt (.list g rfl rfl (DL f1 cr)) (.list h rfl rfl (DL f2 i)) (I0 f1) (I0 f2) (B (show PyData.eqv (.list (E.map V.dd)) (.list (ws.map V.dd))=e from Jv z.2.2.2.2.2.2.2.2.1) (.at t z.2.2.2.2.2.2.2.2.2 S (.bool _)))))
theorem aeA(r:bX g h E aj):E.isEmpty=aj.isEmpty:=by cases r<;>rfl
theorem agL{b:bM g}(x:bz b a l):pj b (.jf ne a) l (p_ ne) (.List [] pos):=λL q A Q s ko he S=>x.then ko he S λ{_ _ _ s2} z t S r=>cF z λi E z=>r.kQ z.1 (S.ref z.2.1 λaj n h cr=>
 List_ (dX (wpAny_newList (by
  haveI k:=hX s2.heap (eT [] 0);have e:eD L q s.heap Q (.bool (aj.isEmpty !=ne)) {s2 with heap:=s2.heap.push (eT [] 0)}:=aeA cr▸.at (t.trans (.of k)) z.2.2.2 (S.jS k) (.bool _)
  have c:=lG (k _ _ h);have d:(s2.heap.push (eT [] 0)).IsList s2.heap.objs.size [].toArray:=lG (mJ _ rfl);have hu:=df (jK _ 64) b.zY;cases aj with
  |nil=>cases ne with
   |false=>refine SeqAt.RcAt.lists (e:=λY=>true) c d rfl hu (by intro j f;exact absurd f (Nat.not_lt_zero j)) g.prog g.w _ _ ?_;exact e
   |true=>refine SeqAt.RcNeAt.lists (e:=λY=>true) c d rfl hu (by intro j f;exact absurd f (Nat.not_lt_zero j)) g.prog g.w _ _ ?_;exact e
  |cons x xs=>cases ne with
   |false=>exact SeqAt.RcAt.lists_lengths c d (by rfl) hu g.prog g.w _ _ e
   |true=>exact SeqAt.RcNeAt.lists_lengths c d (by rfl) hu g.prog g.w _ _ e) (B sizeLine_eq (fw _)))))
theorem agh(x:bz b a l)(y:bz b c r)(w:bz b d u)(hm:lastMarks [.LtE,.Lt] [r,u]=false):bz b (.qU a c d) (.Compare l [.LtE,.Lt] [r,u] pos):=λL q A Q s ko he S=>
 Compare_chain (x.then ko he S λz t S f=>chain_link (y.then ko z S λz J S g=>bH.xZ z (f.b_ J) g λi j Y Y z=>le_int (wpAny_truthy_bool (by
  by_cases e:i<=j
  .rw[cO e,bA rfl];exact chain_last (w.then ko (z.2 e) S λz h S m=>m.AY z λk Y z=>lt_int (.at (t.trans (J.trans h)) z S (.bool _)))
  .rw[dp e,bx gH];exact .at (t.trans J) (z.1 e) S (.bool _))))) hm
theorem af8(x:bz b a l)(y:bz b c r)(w:bz b d u)(hm:lastMarks [.LtE,.Lt] [r,u]=false):ke b (.qU a c d) (.Compare l [.LtE,.Lt] [r,u] pos):=λL q A Q s ko he S=>
 isTrue_chain (x.then ko he S λz t S g=>test_link (y.then ko z S λz J S h=>bH.xZ z (g.b_ J) h λi j Y Y z=>le_int (wpAny_truthy_bool (by
  by_cases f:i<=j
  .rw[cO f,bA rfl];exact test_last (w.then ko (z.2 f) S λz m S n=>n.AY z λk Y z=>lt_int (wpAny_truthy_bool (az z λe z=>⟨_,by cases z.1;exact z.2,t.trans (J.trans m),S⟩)))
  .rw[dp f,bx gH];exact az (z.1 f) λe z=>⟨_,by cases z.1;exact z.2,t.trans J,S⟩)))) hm
def CG(x:V)(E:List V)(b:Bool):Prop:=
 (E=[]/\b=false)\/(∃(p:String) (ys:List String),x=.str p/\E=ys.map .str/\(ys.any λy=>decide (y=p))=b)\/(x.pH=true/\E.all V.pH=true/\((E.map V.dt).any λy=>PyData.eqv y x.dt)=b)
theorem N4:∀{b:Bool},V.om x E=some b->CG x E b:=by
 induction E with
 |nil=>exactλe=>.inl ⟨rfl,(dH e).symm⟩
 |cons v r ih=>
  intro b e;have e:(match V.eqv v x,V.om x r with|some t,some u=>some (t||u)|_,_=>none)=some b:=e
  cases c:V.eqv v x with
  |none=>rw[c]at e;exact nn e
  |some t=>
   cases d:V.om x r with
   |none=>rw[c,d]at e;exact nn e
   |some u=>
    rw[c,d]at e;have e:=dH e;refine .inr (Jx c (λp q ev ex a=>.inl ?_) λf1 f2 a=>.inr ?_)
    .refine(ih d).elim (λz=>⟨q,[p],ex,by rw[ev,z.1];rfl,by rw[<-e,a,z.2];rfl⟩) λy=>y.elim (λz=>cF z λp' ys z=>?_) λz=>nf (Eq.trans (by rw[ex];rfl) z.1)
     have h:=V.str.inj (ex.symm.trans z.1);exact⟨q,p::ys,ex,by rw[ev,z.2.1];rfl,by rw[<-e,a,<-z.2.2,<-h];rfl⟩
    .refine(ih d).elim (λz=>⟨f2,by rw[z.1];exact(Bool.and_true _).trans f1,by rw[<-e,z.1,z.2,<-a];rfl⟩) λy=>y.elim (λz=>cF z λp' ys z=>nf (Eq.trans (by rw[z.1];rfl) f2)) λz=>⟨f2,(jC _ _).mpr ⟨f1,z.2.1⟩,by rw[<-e,<-a,<-z.2.2];rfl⟩
theorem GQ:∀{ys:List String} {aj:List Value},bX g h (ys.map V.str) aj->StrsAre aj (ys.map PS)
 |[],_,r=>r.jz .nil
 |y::ys,_,r=>r.ie λc cs a r=>a.tP rfl λk=>.cons _ _ (GQ r)
theorem C8(p:String):∀ys:List String,(ys.map PS).any (·==PS p)=ys.any (λy=>decide (y=p))
 |[]=>rfl
 |y::ys=>by simp only[List.map_cons,List.any_cons,List.any_cons,C8 p ys,zy]
theorem AX(b:bM g)(k:m<=1):b.aa.units+1+min n m<cLine:=df (by lia) b.zY
theorem zm:(#[]:Array Value).any (λY=>false)=false:=by simp
theorem aet{b:bM g}(c:s.heap.get? D=some (fV aj n))(cr:bX g s.heap E aj)(d:bH g s.heap v h)(z:CG v E t)(k:R (.bool (t !=ne)) s):b.wp (compareOp (u0 ne) h (.ref D)) R s:=by
 refine z.elim (λz=>?_) λz=>z.elim (λz=>cF z λp ys z=>?_) λz=>?_
 .rw[z.1]at cr;rw[z.2]at k;cases cr;cases ne with
  |false=>exact SeqRoads2.in_tuple (λY=>false) (λy a=>absurd a (Array.not_mem_empty _)) c (by rw[zm];exact k)
  |true=>exact SeqRoads2.notIn_tuple (λY=>false) (λy a=>absurd a (Array.not_mem_empty _)) c (by rw[zm];exact k)
 .refine d.tP z.1 λtk=>?_;have ss:=GQ (z.2.1▸cr);have e:R (.bool (aj.toArray.any (isStrOf (PS p)) !=ne)) s:=by rw[<-Array.any_toList,any_isStrOf _ ss,C8,z.2.2];exact k
  cases ne with
  |false=>exact SeqRoads2.in_tuple (isStrOf (PS p)) (λy a=>eq_isStrOf _ _ ss y (List.mem_toArray.mp a)) c (kF e)
  |true=>exact SeqRoads2.notIn_tuple (isStrOf (PS p)) (λy a=>eq_isStrOf _ _ ss y (List.mem_toArray.mp a)) c (kT e)
 .haveI f:Reads s.heap (.ref D) (.tuple (E.map V.dt)) []:=.tuple c rfl rfl (Je z.2.1 cr);rw[<-z.2.2]at k;cases ne with
  |false=>exact SeqAt.in_tuple_reads f (sN z.1 d) (wV z.2.1).1 (oE z.1).1 (AX b (oE z.1).2) (kF k)
  |true=>exact SeqAt.notIn_tuple_reads f (sN z.1 d) (wV z.2.1).1 (oE z.1).1 (AX b (oE z.1).2) (kT k)
theorem aer{b:bM g}(a:s.heap.get? D=some (eT aj n))(cr:bX g s.heap E aj)(c:bH g s.heap v f)(z:CG v E t)(k:R (.bool (t !=ne)) s):b.wp (compareOp (u0 ne) f (.ref D)) R s:=by
 refine z.elim (λz=>?_) λz=>z.elim (λz=>cF z λp ys z=>?_) λz=>?_
 .rw[z.1]at cr;rw[z.2]at k;cases cr;cases ne with
  |false=>exact SeqInW.in_listW (λY=>false) (λy d=>absurd d (Array.not_mem_empty _)) (lG a) (by rw[zm];exact k)
  |true=>exact SeqInW.notIn_listW (λY=>false) (λy d=>absurd d (Array.not_mem_empty _)) (lG a) (by rw[zm];exact k)
 .refine c.tP z.1 λtk=>?_;have ss:=GQ (z.2.1▸cr);rw[<-z.2.2,<-C8]at k;cases ne with
  |false=>exact in_list_strs (lG a) ss (kF k)
  |true=>exact notin_list_strs (lG a) ss (kT k)
 .haveI e:Reads s.heap (.ref D) (.list (E.map V.dt)) [D]:=.list a rfl rfl (Je z.2.1 cr);rw[<-z.2.2]at k;cases ne with
  |false=>exact SeqAt.in_list_reads e (sN z.1 c) (wV z.2.1).1 (oE z.1).1 (AX b (oE z.1).2) (kF k)
  |true=>exact SeqAt.notIn_list_reads e (sN z.1 c) (wV z.2.1).1 (oE z.1).1 (AX b (oE z.1).2) (kT k)
theorem aes{b:bM g}{L:bQ g}(t:TL h s.heap)(S:aN L q A s)(a:bH g s.heap v l)(f:bH g s.heap w m)(e:NZ A v w λr=>Q (.bool (r !=ne)) A):b.wp (compareOp (u0 ne) l m) (eD L q h Q) s:=by
 cases w with
 |aE E=>exact az e λJ z=>f.m6 λD aj n c cr Y=>aet c cr a (N4 z.1) (.at t z.2 S (.bool _))
 |ref D=>exact bH.kQ rfl f (e.elim (λe=>cF e λE J z=>S.ref z.1 λaj n c cr=>aer c cr a (N4 z.2.2.1) (.at t z.2.2.2 S (.bool _))) λe=>cF e λaF i z=>S.dI z.1 λes j dr=>a.iD z.2.1 λk=>by
  haveI e:(n7 aF i).isSome=(valueAt es i).isSome:=(I5 dr i).elim (λu=>cF u λY Y u=>by refine B u.1<|B u.2.1 ?_;rfl) λu=>by rw[u.1,u.2];rfl
  haveI d:=z.2.2;rw[e]at d;cases ne with
  |false=>exact wpAny_in_of (intKind_is g.prog g.w i k) (S.8 _ _ z.1) j.mapOf (.at t (by rwa[Bool.bne_false]at d) S.r7 (.bool _))
  |true=>exact wpAny_notIn_of (intKind_is g.prog g.w i k) (S.8 _ _ z.1) j.mapOf (.at t (by rwa[Bool.bne_true]at d) S.r7 (.bool _)))
 |_=>exact e.elim
theorem agM(x:bz b a l)(y:bz b c r):pj b (.jh ne a c) l (u0 ne) r:=λL q A Q s ko he S=>bz.eM x y ko he S λz t S d e=>aes t S d e z
theorem DY(e:o.data=.fields a):iY o:=⟨λY q=>(nomatch e.symm.trans q),λY Y q=>(nomatch e.symm.trans q)⟩
theorem JS:iY (eT aj n):=⟨λY q=>(nomatch q),λY Y q=>(nomatch q)⟩
theorem Gk{b:bM g}{a}(c:s.heap.get? d=some o)(e:o.cls=.type n)(hd:o.data=.fields f)
 (h:(["enumerate","zip","dict_itemiterator","dict_reverseitemiterator","odict_iterator","itertools.zip_longest","itertools.pairwise"].contains n)=false) (k:R () s):b.wp (letOwnedTupleGo (.Tuple i a pos) (.ref d) (.ref T)) R s:=by
 refine cD (wpAny_load c ?_);refine B e<|B hd ?_;show b.wp (if(["enumerate","zip","dict_itemiterator","dict_reverseitemiterator","odict_iterator","itertools.zip_longest","itertools.pairwise"].contains n&&f[0]? ==some (rawInt T))=true then _ else _) R s
 exact B (bx (by rw[h,Bool.false_and];exact gH)) (dX k)
def Wk(b:bM g)(h:Heap)(ws:List V)(e:H->Prop)(a:Addr)(c:Nat->Obj->Prop):Prop:=Q5
 (∀i o,c i o->iY o/\∀aj n,o≠fV aj n)
 (∀{L:bQ g} {q A s i x o R},TL h s.heap->aN L q A s->s.heap.get? a=some o->c i o->e A->ws[i]? =some x->
   (∀f d tk j,bH g s.heap x f->c (i+1) j->d.get? a=some j->Heap.SameBut a s.heap d->R (some f) {s with heap:=d,toks:=tk})->b.wp (pyNext (.ref a)) R s)
 (∀{s:Shared} {i o R},s.heap.get? a=some o->c i o->R (.ref a) s->b.wp (pyIter (.ref a)) R s)
 (∀{s:Shared} {i o k l pos T R},s.heap.get? a=some o->c i o->R () s->b.wp (letOwnedTupleGo (.Tuple k l pos) (.ref a) (.ref T)) R s)
 (∀{L:bQ g} {q A s o R},TL h s.heap->aN L q A s->s.heap.get? a=some o->c ws.length o->e A->(∀d tk,Heap.ExtBut a s.heap d->R none {s with heap:=d,toks:=tk})->b.wp (pyNext (.ref a)) R s)
theorem ajB(a j:Addr)(E:List V):Wk b h E (λA=>A a=some (.list E)) j (λi o=>o.cls=.type "list_iterator"/\o.data=.fields #[.ref a,.int i 0]):=⟨
 λi o z=>⟨DY z.2,iY.nt z.1 (by decide)⟩,
  λt S e it st l k=>S.ref st λaj n d cr=>az (cr.get _ _ l) λc u=>wpAny_pyNext_list_item ⟨_,e,it⟩ (lG d) (wj u.1) λf z g=>az z λm z=>k c f _ m u.2 z.2 z.1 g,
  λe it k=>wpAny_pyIter_listiter ⟨_,e,it⟩ k,
  λe it k=>Gk e it.1 it.2 (by decide) k,
   λt S e it st k=>S.ref st λaj n d cr=>wpAny_pyNext_list_end b.hh ⟨_,e,it⟩ (lG d) (by refine B List.getElem?_toArray ?_;refine B cr.len ?_;exact List.getElem?_eq_none (dR _)) λf g=>k f _ g⟩
theorem ajD{b:bM g}(a l:Addr)(E:List V)(aj:List Value)(n:Nat)(j:h.get? a=some (fV aj n))(cr:bX g h E aj):Wk b h E (λY=>True) l (λi o=>o.cls=.type "tuple_iterator"/\o.data=.fields #[.ref a,.int i 0]):=⟨
 λi o z=>⟨DY z.2,iY.nt z.1 (by decide)⟩,
  λt S e it st m k=>az ((cr.b_ t).get _ _ m) λc u=>wpAny_pyNext_tuple_item ⟨_,e,it⟩ (te (t _ _ _ j)) (wj u.1) λd z f=>az z λp z=>k c d _ p u.2 z.2 z.1 f,
  λe it k=>wpAny_pyIter_tupleiter ⟨_,e,it⟩ k,
  λe it k=>Gk e it.1 it.2 (by decide) k,
   λt S e it st k=>wpAny_pyNext_tuple_end b.hh ⟨_,e,it⟩ (te (t _ _ _ j)) (by refine B List.getElem?_toArray ?_;refine B cr.len ?_;exact List.getElem?_eq_none (dR _)) λd f=>k d _ f⟩
noncomputable def qC(a c:Int)(n:Nat):List V:=(List.range n).map λ(i:Nat)=>.int (a+i*c)
theorem BV:(qC a c n).length=n:=by unfold qC;rw[b9,mH]
theorem Qe(e:(qC a c n)[i]? =some x):i<n/\x=.int (a+(i:Int)*c):=by
 haveI hi:=(fR.mp e).1;rw[BV]at hi;unfold qC at e;simp only[List.getElem?_map,List.getElem?_range hi]at e;exact⟨hi,(dH e).symm⟩
theorem Qg(a b:Int):gE a b=qC a 1 (b-a).toNat:=k8 λi Y=>by rw[Int.mul_one]
theorem ahD(a b:Int):rV a b=qC a (-1) (a-b).toNat:=k8 λi Y=>by simp only[Int.mul_neg,Int.mul_one];rfl
theorem ahE(a c i:Int):a+(i+1)*c=a+i*c+c:=by simp only[Int.add_mul,Int.one_mul,Int.add_assoc]
theorem ajC(a c:Int)(n:Nat)(j:Addr):Wk b h (qC a c n) (λY=>True) j (λi o=>o={cls:=.type "range_iterator",dict:=none,data:=.fields #[rawInt (a+(i:Nat)*c),rawInt ((n:Int)-(i:Nat)),rawInt c],slots:= #[]}):=⟨
 λi o z=>⟨DY (aP Obj.data z),iY.nt (aP Obj.cls z) (by decide)⟩,
  λ{_ _ _ _ i _ _ _} t S e it st l k=>by
 subst it;haveI hi:=Qe l;refine wpAny_pyNext_range_item e (by lia) λd f g=>?_
 rw[hi.2]at k;refine k _ d _ _ (.int _ _) ?_ f g;show _=Obj.mk (.type "range_iterator") none (.fields #[rawInt (a+((i+1:Nat))*c),rawInt (n-((i+1:Nat))),rawInt c]) #[]
 simp only[Int.natCast_succ,ahE,<-Int.sub_sub],
  λe it k=>by subst it;exact wpAny_pyIter_rangeiter e k,
  λe it k=>by subst it;exact Gk e rfl rfl (by decide) k,
   λt S e it st k=>by
 subst it;rw[BV,Int.sub_self]at e;exact wpAny_pyNext_range_end b.hh e (g8 0) λd g=>k d _ g⟩
inductive tX{g:Gd}(b:bM g)(L:bQ g)(q:Lq)(h:Heap)(R:H->List V->(H->Prop)->Prop):Value->Shared->Prop
 |mk (s:Shared) (ak:Addr) (o:Obj) (A:H) (ws:List V) (dm:H->Prop) (It:Nat->Obj->Prop):R A ws dm->TL h s.heap->aN L q A s->s.heap.get? ak=some o->It 0 o->nU L q A ak->Wk b s.heap ws dm ak It->tX b L q h R (.ref ak) s
theorem N9{b:bM g}(t:TL h s.heap)(S:aN L q A s)(r:bH g s.heap v d)(e:oo .seq [v] A (R A)):b.wp (pyIter d) (tX b L q h R) s:=by
 have k:=λo=>TL.of (hX s.heap o);cases v with
 |aE E=>
  haveI f:=e;exact r.m6 λa aj n c cr i=>wpAny_pyIter_tuple (te c) (.mk _ _ _ A E _ _ f (t.trans (k _)) (S.jS (hX _ _)) (mJ _ rfl) ⟨rfl,rfl⟩ S.size (ajD a _ E aj n (k _ _ _ _ c) (cr.b_ (k _))))
 |ref a=>exact bH.kQ rfl r (az e λE z=>S.ref z.1 λaj n c cr=>wpAny_pyIter_list (lG c) (.mk _ _ _ A E _ _ z.2.2 (t.trans (k _)) (S.jS (hX _ _)) (mJ _ rfl) ⟨rfl,rfl⟩ S.size (ajB a _ E)))
 |_=>exact e.elim
inductive y9{g:Gd}(L:bQ g)(q:Lq)(h:Heap)(R:H->List V->(H->Prop)->Prop):Value->Shared->Prop
 |mk (s:Shared) (r:Addr) (a b c:Int) (t u v:Tok) (n:Nat) (A:H):IsRange s.heap r a b c t u v->Builtin.Range.small a b c=true->Builtin.Range.rangeSize a b c=(n:Nat)->n<=2000000000->R A (qC a c n) (λY=>True)->TL h s.heap->aN L q A s->y9 L q h R (.ref r) s
theorem aeD{b:bM g}(x:y9 L q h R d s):b.wp (pyIter d) (tX b L q h R) s:=by
 cases x with
 |mk s r a i c t u v n A hr e f _ z tl S=>exact wpAny_pyIter_range hr e (.mk _ _ _ A _ _ _ z (tl.trans (.of (hX _ _))) (S.jS (hX _ _)) (mJ _ rfl) (by rw[f];simp only[Int.natCast_zero,Int.zero_mul,Int.add_zero,Int.sub_zero]) S.size (ajC a c n _))
theorem Qw(a b:Int):Builtin.Range.rangeSize a b 1=((b-a).toNat:Int):=by
 refine(bA (by decide)).trans ?_
 by_cases h:a<b
 .rw[bA h,Int.ediv_one,Int.sub_add_cancel,Int.toNat_of_nonneg (Int.sub_nonneg_of_le (Int.le_of_lt h))]
 .rw[bx h,Int.toNat_of_nonpos (Int.sub_nonpos_of_le (Int.not_lt.mp h))];rfl
theorem uH(h:fits a): -(2^62)<=a/\a<2^62:=⟨fp (by decide) h.1,Int.lt_of_le_of_lt h.2 (by decide)⟩
theorem Qy(ha:fits a)(c:fits b):Builtin.Range.small a b 1=true:=small_one (uH ha).1 (uH ha).2 (uH c).1 (uH c).2
theorem DZ(ha:fits a)(c:fits b):(b-a).toNat<=2000000000:=Int.toNat_le.mpr (fp (Int.sub_le_sub c.2 ha.1) (by decide))
theorem ahC{b:bM g}(t:TL h s.heap)(S:aN L q A s){E:List V}{aj:List Value}(r:bX g s.heap E aj){R:H->List V->(H->Prop)->Prop}(e:oo .eV E A (R A)):b.wp (call (.type "range") aj) (y9 L q h R) s:=by
 have z:fits 0:=by unfold fits;decide
 have t:=λo=>t.trans (.of (hX s.heap o));have S:=λo tk=>S.jS (tk:=tk) (hX s.heap o);cases E with
 |nil=>exact e.elim
 |cons v E=>cases v with
  |int a=>cases E with
   |nil=>exact r.ie λc cs f r=>r.jz (f.iD rfl λk=>call_range_1 (.mk _ _ 0 a 1 _ _ _ _ A (mJ _ rfl) (Qy z e.1) (Qw 0 a) (DZ z e.1) (Qg 0 a▸e.2) (t _) (S _ _)))
   |cons v E=>cases v with
    |int c=>cases E with
     |nil=>exact r.ie λj cs f r=>r.ie λl cs i r=>r.jz (f.iD rfl λk=>i.iD rfl λm=>call_range_2 (.mk _ _ a c 1 _ _ _ _ A (mJ _ rfl) (Qy e.1 e.2.1) (Qw a c) (DZ e.1 e.2.1) (Qg a c▸e.2.2) (t _) (S _ _)))
     |cons v E=>cases v with
      |int d=>cases E with
       |nil=>exact r.ie λj cs f r=>r.ie λl cs i r=>r.ie λp cs n r=>r.jz (f.iD rfl λk=>i.iD rfl λm=>n.iD (aP V.int e.1) λu=>
        have f1:=uH e.2.1;have f2:=uH e.2.2.1
        call_range_3 (by decide) (.mk _ _ a c (-1) _ _ _ _ A (mJ _ rfl) (small_down f1.1 f1.2 f2.1 f2.2) (rangeSize_downNat a c) (DZ e.2.2.1 e.2.1) (ahD a c▸e.2.2.2) (t _) (S _ _)) (.inl (PyProof.noPylong_of_log2 (by decide+kernel))))
       |cons=>exact e.elim
      |_=>exact e.elim
    |_=>exact e.elim
  |_=>exact e.elim
theorem Qf{b:bM g}{L:bQ g}(a:iQ b.kd "range"=true)(ha:Args b es ps)(ko:gP b.kd L.av)(c:Es b.C es q.bK A λE A=>oo .eV E A (R A))(S:aN L q A s):b.wp (eval (.Call (.Name (PS "range") np) ps [] pos) L.av) (y9 L q s.heap R) s:=
 Dx rfl a ha ko c S λY z t S r=>ahC t S r z
theorem aeE(z:ItemsOf (λi v=>∃t,v=.int (a+i*c) t) j n):bX g h (qC a c n) j.toList:=by
 haveI key:∀aj E,aj.length=E.length->(∀i b v,aj[i]? =some b->E[i]? =some v->bH g h v b)->bX g h E aj:=by
  intro aj
  induction aj with
  |nil=>intro E d f;cases E with|nil=>exact .nil|cons x y=>injection d
  |cons c aj ih=>intro E d f;cases E with
   |nil=>injection d
   |cons v E=>exact .cons _ _ _ _ (f 0 c v rfl rfl) (ih E (Nat.succ.inj d) λi=>f (i+1))
 exact key _ _ (by refine B BV ?_;refine aT z.1 ?_;rfl) λi b v k l=>az (z.2 i b (aT Array.getElem?_toList k)) λt e=>by simp only[e,(Qe l).2];exact .int _ _
theorem aho(n:c=a)(e:dF f a (some x) c=some o):o=x:=by
 subst n;exact(dH (fC.symm.trans e)).symm
inductive qR:List String->List (Option Expr)->Prop
 |nil:qR [] []
 |cons (k:String) (a:Nat) (p:Pos) (ks:List String) (r:List (Option Expr)):qR ks r->qR (k::ks) (some (.Constant (.str (PS k)) a p)::r)
theorem IZ:∀{a:List String} {ps:List Expr},qR a (DK a ps)
 |[],_=>.nil
 |_::_,_=>.cons _ _ _ _ _ IZ
theorem qR.all(x:qR a r):r.all (·.isSome)=true/\a.length=r.length:=x.rec ⟨rfl,rfl⟩ λY Y Y Y Y Y i=>⟨i.1,aP Nat.succ i.2⟩
theorem iA.UK{b8:Addr->Option Obj}(r:iA h L q)(t:TL h d)(b:∀c o f,q.mu c=some o->o.data=.cell (some f)->b8 c=some o)(g:∀o,q.mu L.av.locals=some o->b8 L.av.locals=some o):iA d L {q with mu:=b8}:=by
 cases r with
 |ja e a=>exact .ja e λx v l=>(a x v l).kf t b
 |lZ i m e n a=>exact .lZ i m (g _ e) n λx v l=>(a x v l).kf t b
theorem aN.afm(S:aN L q A s)(f:nU L q A D):L.av.locals≠D:=λe=>by
 cases S.4 with
 |ja a=>exact f.3 (e.symm.trans a)
 |lZ b m a=>exact gM f.4 (aT e a)
theorem Uv{b:bM g}{L:bQ g}(c:tZ g f)(d:fI p=true)(k:b.wp (eval p L.av) (λe a=>g.K.In a.heap/\b.wp (call f [e]) R a) s):b.wp (callWith pos f [] (backTo pos (starEach [p] L.av)) []) R s:=by
 rw[vK d];refine callWith_of rfl c (evalArgs_plain ?_);show b.wp (do
  let v<-(if false=true then(do let v<-eval p L.av;standAt pos;pure v)else eval p L.av)
  let lE<-(if false=true then(do
   if<-notIterableAtAll v then
    rule "star.not-iterable";raiseError "TypeError" s!"Value after * must be an iterable, not {← typeNameOf v}"
   PySem.collect v)else pure [v])
  return lE++(<-holding lE (spliced (backTo pos [])))) _ s
 refine B (bx gH)<|cD (dD k λz=>cD ?_);exact B (bx gH) (dX (cD (wpAny_holding (dX (dX z)))))
theorem ags(h:iQ b.kd "list"=true)(g:iQ b.kd "range"=true)(ha:Args b es ps):bz b (.rM es) (.Call (.Name (PS "list") np) [.Call (.Name (PS "range") i) ps [] j] [] pos):=λL q A Q s ko he S=>
 haveI l:=he
 Call_ (Dt S ko h rfl (Uv (Fm (f:="list") rfl) rfl (dD (Qf g ha ko l S) λz=>by
  cases z with
  |mk s r a c d t u v n A hr m p _ z tl S=>
   have z:=BV▸z;exact⟨S.kn,call_list_range b.hh hr m p (aV z.1 (by decide)) λw tk x y k e it=>.FH tl S z.2 (aeE it) (oa _ (dR _)) (λb o Y e=>k b o e) (S.3.keeps k) e⟩)))
theorem ahd{b:bM g}{L:bQ g}{c:List String}{f:List (Option Expr)}(j:qR c f):∀{es ps} {q:Lq} {A s} {Q:List V->H->Prop},Al (bz b) es ps->c.length=es.length->gP b.kd L.av->Es b.C es q.bK A Q->aN L q A s->
 b.wp (evalPairs (pairTrees f ps L.av pos)) (λi l=>∃aj:List Value,allStrKeys i=true/\strPairs i=pZ (c.zip aj)/\aj.length=c.length/\CN L q s.heap Q aj l) s:=by
 induction j with
 |nil=>
  intro es ps q A s Q y d ko h S;cases y with
  |nil=>exact pairTrees_nil_walk ⟨[],rfl,rfl,rfl,[],A,h,.refl,S,.nil⟩
  |cons=>injection d
 |cons k a p c f _ ih=>
  intro es ps q A s Q y d ko h S;cases y with
  |nil=>injection d
  | @cons e p es ps x y=>
   refine pairTrees_cons_walk (wpAny_Constant_str (x.then ko h S.r7 λz t S r=>dD (ih y (Nat.succ.inj d) ko z S) λz=>az z λaj z=>z.2.2.2.rec λE A y J S m=>?_))
   exact⟨_::aj,z.1,aP (List.cons _) z.2.1,aP Nat.succ z.2.2.1,_::E,A,y,t.trans J,S,.cons _ _ _ _ (r.b_ J) m⟩
theorem Ja:∀{b:List String} {E:List V} {aj:List Value},bX g h E aj->kc g h (b.zip E) (b.zip aj)
 |[],_,_,_=>.nil
 |_::_,[],_,r=>r.jz .nil
 |_::_,_::_,_,r=>r.ie λY Y a r=>.cons _ _ _ _ _ a (Ja r)
theorem Rr:∀{xs:List String} {ys:List Value},ys.length=xs.length->(pZ (xs.zip ys)).map (·.1)=xs.map PS
 |[],_,_=>rfl
 |_::_,[],h=>nomatch h
 |_::_,_::_,h=>aP (List.cons _) (Rr (Nat.succ.inj h))
noncomputable def wU:Obj:={cls:=.type "dict",data:=.dict #[]}
theorem agk{b:bM g}(i:qR a C)(hd:a.Nodup/\a.length<=15/\a.length=es.length)(y:Al (bz b) es ps)(len:es.length=ps.length):bz b (.q9 a es) (.Dict C ps pos):=λL q A Q s ko G S=>by
 haveI l:=G;cases a with
 |nil=>
  cases i;cases y with
  |cons=>cases hd.2.2
  |nil=>exact Dict_empty_made2 S.fr (S.mq []) (modules_low g.vo) λI o F N lo Y Y J Y Y=>⟨_,_,l _ S.size.1,S.oY (S.vf F N),S.add (.fN [] [] o J .nil) (oa _ (dR _)) (S.vf F N) F.ns (N _ (bE ..)).1 λY Y=>S.Qv,.ref _⟩
 |cons k a=>
  haveI ha:=i.all;haveI f:=S.size;haveI m:(s.heap.push wU).get? s.heap.objs.size=some wU:=mJ _ rfl;haveI M:=(S.jS (tk:=s.toks) (hX s.heap wU)).oj f (iY.nt rfl (by decide)) m
  refine Dict_made (knd:=strKind g.prog g.w) S.fr ha.1 (by refine aT ha.2 ?_;refine B hd.2.2 ?_;exact B len rfl) (λe=>by rw[e]at ha;exact nomatch ha.2) (ha.2▸hd.2.1) λY=>dD (ahd (q:=⟨q.m0,dF q.mu s.heap.objs.size (some wU),q.bK⟩) i y hd.2.2 ko l M) λ{P R} z=>az z λaj z=>z.2.2.2.rec λE Z W t S' r=>?_
  refine br (S'.7 _ _ fC) λp u X=>?_;haveI dn:=az (Heap.dictOf_iff.mp (Heap.DictOf.new (knd:=strKind g.prog g.w) s.heap)) λo y=>Heap.dictOf_iff.mpr ⟨_,p,dH (y.1.symm.trans m)▸y.2⟩;refine display_done_str z.1 (by simp only[z.2.1,Rr z.2.2.1];exact List.pairwise_map.mpr (hd.1.imp λh e=>h (yt e))) dn λI hm j=>?_
  simp only[z.2.1]at hm;refine az (Heap.dictOf_iff.mp hm) λo y=>?_;have tl:=S'.tl (λb x n Y e=>j.extBut b x n e) λaj n e=>(iY.nt rfl (by decide) aj n) (dH (p.symm.trans e))
  have mu:dF (dF q.mu s.heap.objs.size (some wU)) s.heap.objs.size none=q.mu:=funext λb=>by
   by_cases n:b=s.heap.objs.size
   .rw[n,fC];exact f.4.symm
   .rw[dA n,dA n]
  haveI v:=S'.at (tk:=R.toks+P.length) s.heap.objs.size (x:=some (.kg ((k::a).zip E))) (λb x n Y e=>j.extBut b x n e) (S'.3.at' λo e=>j.extBut _ _ (cQ u) e) u X
   (aT mu.symm ((S'.4.UK tl (λc o cv e d=>(dA λn=>(by cases aho n e;injection d)).symm.trans e) λo e=>(dA (S.afm f)).symm.trans e))) tl (λY e=>by injection e with e;subst e;exact(aS rfl ⟨o,y.1,.kg _ _ o y.2 (Ja (r.b_ tl))⟩ (λY e=>(nomatch e)))) mw
  rw[mu]at v;exact⟨_,_,W _ (S'.tu fC),(TL.of (hX _ _)).trans (t.trans tl),v,.ref _⟩
section
def kI(mu b8:Addr->Option Obj):Prop:=∀a o,mu a=some o->(∀c,o.data≠.cell c)->b8 a=some o
theorem kI.refl:kI a a:=λY Y e Y=>e
theorem kI.trans(h:kI a b)(k:kI b c):kI a c:=λp o hp hf=>k p o (h p o hp hf) hf
def jO(kd:Kd)(L:bQ g)(mu:Addr->Option Obj):Prop:=Q6
 (gP kd L.av)
 (L.av.locals=L.ae)
 (∀x:Nm,L.av.kindOf x.S=kd x.S)
 (∀x:Nm,kd x.S=some .cell->∃c o v,L.av.cells.lookup x.S=some c/\mu c=some o/\o.data=.cell v)
 (∀(x y:Nm) c,kd x.S=some .cell->kd y.S=some .cell->L.av.cells.lookup x.S=some c->L.av.cells.lookup y.S=some c->x=y)
 (∀x:Nm,kd x.S≠some .free)
inductive vU(g:Gd)(h:Heap):Fl->Flow->Prop
 |next:vU g h .next .next
 |brk:vU g h .brk .brk
 |cont:vU g h .cont .cont
 |ret {v:V} {cv:Value}:bH g h v cv->vU g h (.ret v) (.ret cv)
inductive lh{g:Gd}(kd:Kd)(L:bQ g)(mu:Addr->Option Obj)(h:Heap)(Q:Fl->aH->H->Prop)(fl:Flow)(s:Shared):Prop
 |mk (f:Fl) (q:Lq) (A:H):Q f q.bK A->TL h s.heap->kI mu q.mu->jO kd L q.mu->aN L q A s->vU g s.heap f fl->lh kd L mu h Q fl s
section
variable{g:Gd}{b:bM g}{L:bQ g}{q:Lq}{A:H}{s:Shared}{Q:Fl->aH->H->Prop}{mu:Addr->Option Obj}{kd:Kd}
variable(b:bM g)
def je(e:St)(pe:Stmt):Prop:=∀(L:bQ g) q A Q s,jO b.kd L q.mu->S b.C e q.bK A Q->aN L q A s->b.wp (exec pe L.av) (lh b.kd L q.mu s.heap Q) s
def lX(e:List St)(pe:List Stmt):Prop:=∀(L:bQ g) q A Q s,jO b.kd L q.mu->Ss b.C e q.bK A Q->aN L q A s->b.wp (execs pe L.av) (lh b.kd L q.mu s.heap Q) s
end
theorem lh.up(t:TL h a)(k:kI mu b8)(r:lh kd L b8 a Q fl s):lh kd L mu h Q fl s:=r.rec λf q A z J b fn S r=>⟨f,q,A,z,t.trans J,k.trans b,fn,S,r⟩
theorem lh.next(t:TL h s.heap)(k:kI mu q.mu)(z:Q .next q.bK A)(fn:jO kd L q.mu)(S:aN L q A s):lh kd L mu h Q .next s:=⟨.next,q,A,z,t,k,fn,S,.next⟩
theorem jO.sub(fn:jO kd L mu)(k:∀c o v,mu c=some o->o.data=.cell v->∃a b,b8 c=some a/\a.data=.cell b):jO kd L b8:=
 ⟨fn.1,fn.2,fn.3,λx d=>d7 (fn.4 x d) λc o v z=>cF (k c o v z.2.1 z.2.2) λa b y=>d_ c a b (fF z.1 y),fn.5,fn.6⟩
theorem aN.ja(S:aN L q A s)(e:L.av.locals=L.ae):∀x v,q.bK x=some v->sq s.heap L q.mu q.m0 x v:=by
 cases S.4 with
 |ja _ a=>exact a
 |lZ c m b=>exact absurd e (S.7 _ _ b).2.1
theorem aN.afl(S:aN L q A s)(k:∀b o,b≠L.ae->s.heap.get? b=some o->a.get? b=some o)(ns:a.Ns L.ae c)(lr:iA a L ⟨c,q.mu,d⟩):aN L ⟨c,q.mu,d⟩ A {s with heap:=a,toks:=tk}:=by
 haveI o:=S.size;haveI z:=S.at (tk:=tk) s.heap.objs.size (λb o Y=>k b o) ns o.3 o.2 ((nP o.4).symm▸lr) (S.oY k) mw mw;rwa[nP o.1,nP o.4]at z
theorem Bm{l:aH}(e:(l.set x v) y=some u):(y=x/\u=v)\/(y≠x/\l y=some u):=by
 unfold aH.set at e;by_cases z:y=x
 .rw[bA z]at e;exact .inl ⟨z,(dH e).symm⟩
 .rw[bx z]at e;exact .inr ⟨z,e⟩
theorem OE(h:lc kd n=true):kd n=some .local\/kd n=some .cell:=((Bool.or_eq_true _ _).mp h).imp bq bq
theorem B9{b:bM g}{L:bQ g}(fn:jO b.kd L q.mu)(d:lc b.kd x.S=true)(S:aN L q A s)(r:bH g s.heap v j)(k:∀{J b8 l},kI q.mu b8->jO b.kd L b8->TL s.heap l.heap->aN L ⟨J,b8,q.bK.set x v⟩ A l->R () l):b.wp (storeName L.av x.S j) R s:=by
 haveI kk:=fn.3 x;haveI E:=S.ja fn.2;refine(OE d).elim (λd=>?_) λd=>d7 (fn.4 x d) λc o v0 z=>?_
 .have kk:=d▸kk;refine wpAny_storeName_local kk (fn.2▸S.3) (λM G h=>?_) (by refine B L.kind ?_;rfl)
  rw[fn.2]at G h;have t:=S.oY λb o n e=>h.extBut b o n e;refine k .refl fn t (S.afl (λb o n e=>h.extBut b o n e) G (.ja fn.2 λy u e=>(Bm e).elim (λz=>?_) λz=>?_))
  .simp only[z.1,z.2];exact⟨λY=>⟨j,bA rfl,r.b_ t⟩,λn=>by rw[kk]at n;refine Or.elim n (λn=>?_) (λn=>?_)<;>cases n⟩
  .have aa:=(E y u z.2).kf t λY Y Y e Y=>e;exact⟨λn=>az (aa.1 n) λm y=>⟨m,(bx (CP z.1)).trans y.1,y.2⟩,aa.2⟩
 .have kk:=d▸kk;refine wpAny_storeName_cell L.kind kk z.1 ⟨o,(S.7 _ _ z.2.1).1,z.2.2⟩ λM y h=>az y λI y=>?_;have it:∀aj n,o≠fV aj n:=λY Y e=>by rw[e]at z;exact nomatch z.2.2
  haveI t:=S.tl (λb o n Y e=>h.extBut b o n e) λaj n e=>it aj n (dH ((S.7 _ _ z.2.1).1.symm.trans e));refine k (λa u e f=>(dA λn=>by rw[n,z.2.1]at e;injection e with e;subst e;exact f _ z.2.2).trans e) (fn.sub λp C v2 N P=>?_) t (S.GS z.2.1 it h.extBut y.1 λt=>.ja fn.2 λi u e=>(Bm e).elim (λw=>?_) λw=>?_)
  .by_cases n:p=c
   .exact B n ((cE I (some j) (fF fC y.2)))
   .exact cE C v2 (fF ((dA n).trans N) P)
  .simp only[w.1,w.2];exact⟨λn=>by have n:=kk▸n;(cases n),λY=>d_ c I j (cg z.1 (.inl fC) y.2 (r.b_ t))⟩
  .haveI aa:=E i u w.2;refine⟨λn=>az (aa.1 n) λm y=>⟨m,y.1,y.2.b_ t⟩,λn=>d7 (aa.2 n) λp C Q f=>d_ p C Q (cg f.1 (f.2.1.imp (λf2=>(dA λW=>w.1 (fn.5 i x c ?_ d (f.1.trans (aP some W)) z.1)).trans f2) id) f.2.2.1 (f.2.2.2.b_ t))⟩;exact n.elim (λn=>(fn.3 i).symm.trans n) λn=>absurd ((fn.3 i).symm.trans n) (fn.6 i)
theorem agY:je b .vs (.Pass pos):=λY Y Y Y Y fn z S=>wpAny_Pass (.next .refl .refl z fn S)
theorem agS:je b .brk (.Break pos):=λY q A Y Y fn z S=>wpAny_Break ⟨.brk,q,A,z,.refl,.refl,fn,S,.brk⟩
theorem agT:je b .cont (.Continue pos):=λY q A Y Y fn z S=>wpAny_Continue ⟨.cont,q,A,z,.refl,.refl,fn,S,.cont⟩
theorem agU{pe}:je b .n8 pe:=λY Y Y Y Y Y z Y=>z.elim
theorem Py:lX b [] []:=λY Y Y Y Y fn z S=>wpAny_execs_nil (.next .refl .refl z fn S)
theorem Px(x:je b e p)(y:lX b es ps):lX b (e::es) (p::ps):=λL q A Q s fn d S=>
 wpAny_execs_cons (dD (x L q A _ s fn d S) λr=>by
  cases r with
  |mk f a c z t k fn S r=>cases r with
   |next=>exact dD (y L a c Q _ fn z S) (lh.up t k)
   |brk=>exact⟨.brk,a,c,z,t,k,fn,S,.brk⟩
   |cont=>exact⟨.cont,a,c,z,t,k,fn,S,.cont⟩
   |ret r=>exact⟨.ret _,a,c,z,t,k,fn,S,.ret r⟩)
theorem agX(x:ke b c p)(y:lX b t bd)(z:lX b e a):je b (.ite c t e) (.If p bd a pos):=λL q A Q s fn d S=>
 wpAny_If (x.then fn.1 d S λ{i _ _} w tl S=>by
  cases i with
  |true=>exact dD (y L q _ Q _ fn (w.1 rfl) S) (lh.up tl .refl)
  |false=>exact dD (z L q _ Q _ fn (w.2 rfl) S) (lh.up tl .refl))
theorem agZ(x:bz b a p):je b (.ret a) (.Return (some p) pos):=λL q A Q s fn c S=>wpAny_Return_some (x.then fn.1 c S λz t S r=>⟨.ret _,q,_,z,t,.refl,fn,S,.ret r⟩)
theorem ag0:je b (.ret .none) (.Return none pos):=λL q A Q s fn a S=>wpAny_Return_none ⟨.ret .none,q,A,a,.refl,.refl,fn,S,.ret .none⟩
theorem QY(a:rQ p=true)(t:Option Expr)(n:Nat)(av:Env):swapsWith p t n av=pure false:=by cases p<;>first|rfl|exact nf a
theorem ai2:swapsWith p (some (.Attribute l n ap)) i av=pure false:=by cases p<;>rfl
theorem QX:swapsWith p (some (.Subscript l r ap)) i av=pure false:=by cases p<;>rfl
theorem agV(x:bz b a p)(c:rQ p=true):je b (.expr a) (.Expr p pos):=λL q A Q s fn d S=>by
 exact B (exec_Expr (hi:=by unfold interactive;rw[L.kind];rfl) (hs:=QY c _ _ _)) (cD (wpAny_standAt (cD (x.then fn.1 d S λz t S r=>wpAny_dropValue (.next t .refl z fn S)))))
theorem C_{q:Lq}(t:TL h a.heap)(k:kI q.mu b8)(z:Q .next (q.bK.set n v) A)(fn:jO kd L b8)(S:aN L ⟨b,b8,q.bK.set n v⟩ A a):lh kd L q.mu h Q .next a:=⟨.next,⟨b,b8,q.bK.set n v⟩,A,z,t,k,fn,S,.next⟩
theorem agQ(c:lc b.kd n.S=true)(d:rQ p=true)(x:bz b a p):je b (.bP n a) (.Assign [.Name n.S np] p pos):=λL q A Q s fn e S=>
 wpAny_Assign_Name (x.then fn.1 e S λz t S r=>B9 fn c S r λk fn J S=>C_ (t.trans J) k z fn S) (QY d _ _ _)
end
theorem ah2{b:bM g}{L:bQ g}(S:aN L q A s)(e:A D=some (.list E))(j:E.length<=bf)(hp:mZ E.length n=some k)(r:bH g s.heap v f)(z:∀{h:Shared},TL s.heap h.heap->aN L q (A.set D (.list (E.set k v))) h->R () h):b.wp (setItem (.ref D) (.int n t) f) R s:=
 S.ref e λaj m i cr=>by
  haveI bZ:R () {s with heap:=s.heap.update D (Obj.mapSeq (·.setIfInBounds k f))}:=by
   haveI y:=get?_update_seq i (·.setIfInBounds k f)
   simp only[List.setIfInBounds_toArray]at y;exact z (S.tQ e (Heap.SameBut.update ..)) (S.BE e (Heap.SameBut.update ..) y (cr.set r k))
  haveI nl:=aV j sE;exact yy hp (λa c d=>ki_setAt i a (Dm nl c) (by rw[gN,<-cr.len];exact c) (aT d bZ)) λa c d=>ki_setBack i a (by refine B gN ?_;refine aT cr.len ?_;exact c) (Dp nl c) (by refine B gN<|aT cr.len<|aT d<|bZ)
theorem H_{b:bM g}(z:b.wp (eval x av) (λa c=>b.wp (eval y av) (λd e=>b.wp (setItem a d v) R e) c) s):b.wp (assign (.Subscript x y pos) av v) R s:=by
 rw[assign_Subscript];exact cD (wpAny_holding (dD z λz=>cD (wpAny_holding (dD z λz=>cD (wpAny_standAt (cD (wpAny_holding (dD z λz=>wpAny_release' z))))))))
theorem Fj{g:Gd}{b:bM g}{L:bQ g}{q:Lq}{A:H}{s:Shared}{v:V}{c:Value}{D:Addr}{R:Unit->Shared->Prop}{P:H->Prop}(S:aN L q A s)(h:bH g s.heap v c){d e:V}{co ci:Value}(i:bH g s.heap d co)(l:bH g s.heap e ci)(z:∃p E j k,d=.ref p/\e=.int j/\A p=some (.list E)/\E.length<=bf/\mZ E.length j=some k/\P (A.set p (.list (E.set k v))))
 (k:∀{f a},P f->TL s.heap a.heap->aN L q f a->R () a):b.wp (setItem co ci c) R s:=gz z λp E j n z=>i.kQ z.1 (l.iD z.2.1 λt=>ah2 S z.2.2.1 z.2.2.2.1 z.2.2.2.2.1 h λJ S=>k z.2.2.2.2.2 J S)
theorem ag3{g:Gd}{b:bM g}{a i o:a7}{l r p:Expr}{sp pos:Pos}(x:bz b o l)(y:bz b i r)(w:bz b a p):je b (.fK o i a) (.Assign [.Subscript l r sp] p pos):=λL q A Q s fn d S=>
 wpAny_Assign_Subscript (w.then fn.1 d S λz t S e=>bz.eM x y fn.1 z S λz c S f h=>Fj (D:=0) S (e.b_ c) f h z λz t3 S=>.next (t.trans (c.trans t3)) .refl z fn S) QX
theorem I_{K:Type}[DecidableEq K]{aF:List (K×V)}{es:List (K×Value)}(r:kc g h aF es)(k:K)(x:bH g h v b):kc g h (nA aF k v) (stored es k b):=by
 have z:aF.any (λp=>decide (p.1=k))=es.any (λp=>decide (p.1=k))/\kc g h (aF.map λp=>if p.1=k then(k,v)else p) (es.map λp=>if p.1=k then(p.1,b)else p)/\kc g h (aF++[(k,v)]) (es++[(k,b)]):=by
  induction r with
  |nil=>exact aS rfl .nil (.cons _ _ _ _ _ x .nil)
  |cons m u cu aF es a _ ih=>
   refine aS (aP (_|| ·) ih.1) ?_ (.cons _ _ _ _ _ a ih.2.2)
   rw[List.map_cons,List.map_cons];by_cases q:m=k
   .have q:=q.symm;subst q;exact B (bA rfl)<|B (bA rfl)<|.cons _ _ _ _ _ x ih.2.1
   .exact B (bx q)<|B (bx q)<|.cons _ _ _ _ _ a ih.2.1
 unfold nA stored;refine B z.1 ?_
 split
 .exact z.2.1
 .exact z.2.2
theorem aiV(es:List (String×Value))(k:String)(v:Value):stored (pZ es) (PS k) v=pZ (stored es k v):=by
 unfold stored pZ;haveI a:(es.map λp=>(PySem.Str.ofString p.1,p.2)).any (λkv=>decide (kv.1=PS k))=es.any (λkv=>decide (kv.1=k)):=by
  refine List.any_map.trans ?_;congr 1;funext p;exact Hr p.1 k
 refine B a ?_
 split
 .simp only[fk,fk];refine k8 λp Y=>?_;show(if PS p.1=PS k then(PS p.1,v)else(PS p.1,p.2))=(PS (if p.1=k then(p.1,v)else p).1,(if p.1=k then(p.1,v)else p).2)
  by_cases q:p.1=k
  .rw[bA q,bA (aP PS q)]
  .rw[bx q,bx λe=>q (yt e)]
 .simp only[iJ];rfl
theorem DO(r:kc g h aF es):aF.length=es.length:=r.rec rfl λY Y Y Y Y Y Y i=>aP Nat.succ i
theorem ag5{b:bM g}(x:bz b o l)(y:bz b i r)(w:bz b a p):je b (.qE o i a) (.Assign [.Subscript l r sp] p pos):=λL q A Q s fn k S=>
 wpAny_Assign_Subscript (w.then fn.1 k S λz t S d=>bz.eM x y fn.1 z S λz f S m j=>az z λD z=>m.kQ z.1 (by
  haveI d:=d.b_ f;refine z.2.elim (λz=>cF z λn aF z=>j.iD z.1 λtk=>S.dI z.2.1 λes h dr=>?_) λz=>cF z λn aF z=>j.tP z.1 λtk=>S.dS z.2.1 λes h dr=>?_
  .refine wpAny_setItem_pairs (intKind_is g.prog g.w n _) h (λu hm c=>az (Heap.dictOf_iff.mp hm) λco y=>?_) (by rw[sizeLine_eq,<-DO dr];exact aV z.2.2.1 (by decide))
   exact .next (t.trans (f.trans (S.tQ z.2.1 c))) .refl z.2.2.2 fn (S.aW z.2.1 c y.1 (.fN _ _ co y.2 (I_ dr n d)) λY Y=>⟨_,rfl⟩)
  .refine wpAny_setItem_pairs (strKind_is g.prog g.w (PS n) tk) h (λu hm c=>az (Heap.dictOf_iff.mp hm) λco y=>?_) (by rw[sizeLine_eq];unfold pZ;rw[b9];exact aT (DO dr)<|aV z.2.2.1 (by decide))
   exact .next (t.trans (f.trans (S.tQ z.2.1 c))) .refl z.2.2.2 fn (S.aW z.2.1 c y.1 (.kg _ _ co (aiV es n _▸y.2) (I_ dr n d)) λY e=>(nomatch e)))) QX
theorem ae0(r:m_ g h aF es)(n:Nm)(x:bH g h v b)(i:Int)(t:Tok):m_ g h (gD aF n v) (putL n.S i (.str n.S t) b es):=by
 induction r with
 |nil=>exact .cons _ _ _ _ _ _ _ x .nil
 |cons m u d J cu aF es a c ih=>
  rw[show gD ((m,u)::aF) n v=if m=n then(m,v)::aF else(m,u)::gD aF n v from rfl]
  unfold putL;rw[show(Value.str m.S J).isStr n.S=decide (m=n)from Ij m n];by_cases q:m=n
  .subst q;rw[bA rfl,cO rfl,bA rfl];exact .cons _ _ _ _ _ _ _ x c
  .rw[bx q,dp q,bx gH];exact .cons _ _ _ _ _ _ _ a ih
theorem aeZ(r:m_ g h aF es):aF.length=es.length:=r.rec rfl λY Y Y Y Y Y Y Y Y i=>aP Nat.succ i
theorem PU(name:PySem.Str)(h:Int)(k v:Value):∀es:List DictEntry,(putL name h k v es).length<=es.length+1
 |[]=>dR 1
 |e::es=>by
  unfold putL
  split
  .exact Nat.le_succ _
  .exact Nat.succ_le_succ (PU name h k v es)
theorem Nv{c:Cl}(a:c.has n=true)(v:V):∀{aF:List (Nm×V)},(∀p∈aF,c.has p.1=true)->∀p∈gD aF n v,c.has p.1=true
 |[],_,p,hp=>by cases cL.mp hp;exact a
 |(m,u)::aF,h,p,hp=>by
  haveI b:=h (m,u) (bE ..);haveI d:=λp hp=>h p (cP _ hp);replace hp:p∈if m=n then(m,v)::aF else(m,u)::gD aF n v:=hp
  split at hp
  .exact(dW.mp hp).elim (λe=>e▸b) (d p)
  .exact(dW.mp hp).elim (λe=>e▸b) (Nv a v d p)
theorem ahZ{b:bM g}{L:bQ g}(S:aN L q A s){D aB:Addr}(u:A D=some (.dB cl aB))(a:A aB=some (.cM cl aF))(w:aF.length<=900)(i:cl.has n=true)(r:bH g s.heap v z)
 (k:∀{c:Shared},TL s.heap c.heap->aN L q (A.set aB (.cM cl (gD aF n v))) c->R () c):b.wp (setAttr (.ref D) n.S z) R s:=S.dB u a λes m d f C=>by
 haveI N:News g.gB L.ae s.heap ([]++(aB,dictOf es m)::Mp.mq g.gB L.ae [aB] s.heap):=λp hp=>by
  rcases dW.mp hp with rfl|hp
  .exact aS d.dict ((S.6 aB _ a).2.1) (S.ajd a)
  .exact S.mq [aB] p hp
 refine set_plain S.kn d (b.ck.11 cl).1 (osa_dict S.fr N S.kn d rfl (b.ck.11 cl).2 (b.ck.14 cl n.str i) (b.ck.9 cl) ?_ (λY h=>absurd h gh) (λp hp e=>(vk.mp hp).2.2.1 (B e (cL.mpr rfl))) (putName_dict _ _ _ _ _ _) rfl (aV (PU ..) (aeZ f▸aV (Nat.succ_le_succ w) (by decide))) λE j l=>?_)
 .simp only[lookIn_dict];exact(Of f n).elim (λy=>cF y λY Y y=>by refine B y.2.1 ?_;rfl) λy=>by refine B y.2 ?_;rfl
 .haveI t:∀b o,b≠aB->b≠L.ae->s.heap.get? b=some o->E.get? b=some o:=λb x G I e=>S.de j l (λY=>cP _) b x (λhm=>G (cL.mp hm)) I e;exact k (S.tl t (S.vM a)) (S.G9 a t j.ns (l _ (bE ..)).1 (.cM _ _ _ _ (ae0 f n r _ _) (Nv i v C)) λY e=>(nomatch e))
theorem De{b:bM g}{L:bQ g}{P:H->Prop}(S:aN L q A s)(f:bH g s.heap v h)(i:bH g s.heap j co)(z:∃p c d aF,j=.ref p/\A p=some (.dB c d)/\A d=some (.cM c aF)/\aF.length<=900/\c.has n=true/\P (A.set d (.cM c (gD aF n v))))
 (k:∀{e a},P e->TL s.heap a.heap->aN L q e a->R () a):b.wp (setAttr co n.S h) R s:=gz z λp c d aF z=>i.kQ z.1 (ahZ S z.2.1 z.2.2.1 z.2.2.2.1 z.2.2.2.2.1 f λt S=>k z.2.2.2.2.2 t S)
theorem ag1(x:bz b o l)(w:bz b a p):je b (.cV o n a) (.Assign [.Attribute l n.S sp] p pos):=λL q A Q s fn d S=>
 plainObj_wpAny_Assign_Attribute (w.then fn.1 d S λz t S e=>x.then fn.1 z S λz c S f=>De S (e.b_ c) f z λz t3 S=>.next (t.trans (c.trans t3)) .refl z fn S) ai2
theorem H9{b:bM g}(z:b.wp (eval x av) (λa c=>b.wp (setAttr a n v) R c) s):b.wp (assign (.Attribute x n pos) av v) R s:=by
 simp only[assign_Attribute];exact cD (wpAny_holding (dD z λz=>cD (wpAny_standAt (cD (wpAny_holding (dD z λz=>wpAny_release' z))))))
theorem tL:∀{xs:List Nm} {E:List V} {l a:aH},ik xs E l=some a->xs.length=E.length
 |[],[],_,_,_=>rfl
 |[],_::_,_,_,h=>nn h
 |_::_,[],_,_,h=>nn h
 |_::_,_::_,_,_,h=>aP Nat.succ (tL h)
theorem ah3(l:aH)(h:x≠y)(a b:V):(l.set x a).set y b=(l.set y b).set x a:=funext λz=>by
 unfold aH.set;by_cases c:z=y
 .rw[bA c,bx λd=>h (d.symm.trans c),bA c]
 .rw[bx c,bx c]
theorem Qo:∀{xs:List Nm} {E:List V} {l:aH} {x:Nm} {v:V},x∉xs->ik xs E (l.set x v)=(ik xs E l).map λl=>l.set x v
 |[],[],_,_,_,_=>rfl
 |[],_::_,_,_,_,_=>rfl
 |_::_,[],_,_,_,_=>rfl
 |y::xs,u::E,l,x,v,h=>by
  show ik xs E ((l.set x v).set y u)=(ik xs E (l.set y u)).map _;haveI n:x≠y:=λe=>h (B e (bE ..));simp only[ah3 l n,Qo λe=>h (cP _ e)]
theorem Qr:∀{xs:List Nm} {E:List V} {l:aH} {x:Nm} {v:V},xs.length=E.length->ik (xs++[x]) (E++[v]) l=(ik xs E l).map λl=>l.set x v
 |[],[],_,_,_,_=>rfl
 |[],_::_,_,_,_,h=>nomatch h
 |_::_,[],_,_,_,h=>nomatch h
 |_::xs,_::E,_,_,_,h=>Qr (xs:=xs) (Nat.succ.inj h)
theorem Qq:∀{xs:List Nm} {E:List V} {l a:aH},xs.Nodup->ik xs E l=some a->ik xs.reverse E.reverse l=some a
 |[],[],_,_,_,h=>h
 |[],_::_,_,_,_,h=>nn h
 |_::_,[],_,_,_,h=>nn h
 |x::xs,v::E,l,a,b,h=>by
  haveI d:=Nat.succ.inj (tL h);have b:=jb.mp b;refine B List.reverse_cons<|B List.reverse_cons<|B (Qr (by rw[List.length_reverse,List.length_reverse];exact d)) ?_
  haveI c:ik xs E (l.set x v)=some a:=h;rw[Qo b.1]at c;exact az (Option.map_eq_some_iff.mp c) λe z=>B (Qq b.2 z.1) (aP some z.2)
theorem bX.bW:∀{E:List V} {aj:List Value},bX g h E aj->bX g h E.reverse aj.reverse
 |[],_,r=>r.jz .nil
 |_::_,_,r=>r.ie λY Y a r=>by simp only[List.reverse_cons,List.reverse_cons];exact bX.append (.cC a) r.bW
def Rx(b:bM g)(av:Env)(f:Value->Sem Unit)(x:Nm):Prop:=∀{v R s},b.wp (storeName av x.S v) R s->b.wp (f v) R s
inductive se{g:Gd}(b:bM g)(av:Env):List (Value->Sem Unit)->List Nm->Prop
 |nil:se b av [] []
 |cons {f x fs xs}:Rx b av f x->se b av fs xs->se b av (f::fs) (x::xs)
def we(b:bM g)(L:bQ g)(P:(Addr->Option Obj)->Prop)(K:Lq->Lq->Prop)(ok:Nm->Prop):Prop:=Q3
 (∀q,K q q)
 (∀{x y z},K x y->K y z->K x z)
 (∀{q A s x v c} {R:Unit->Shared->Prop},P q.mu->ok x->aN L q A s->bH g s.heap v c->(∀{d b8 a},K q ⟨d,b8,q.bK.set x v⟩->P b8->TL s.heap a.heap->aN L ⟨d,b8,q.bK.set x v⟩ A a->R () a)->b.wp (storeName L.av x.S c) R s)
theorem D7:we b L (jO b.kd L) (λq a=>kI q.mu a.mu) (λx=>lc b.kd x.S=true):=⟨λY=>.refl,.trans,λfn c S r k=>B9 fn c S r k⟩
theorem GP{L:bQ g}{K:Lq->Lq->Prop}(St:we b L P K ok)(f:se b L.av l xs):∀{q:Lq} {d:aH} {s E aj} {R:Unit->Shared->Prop},P q.mu->(∀x∈xs,ok x)->aN L q A s->bX g s.heap E aj->ik xs E q.bK=some d->
 (∀{j b8 h},K q ⟨j,b8,d⟩->P b8->TL s.heap h.heap->aN L ⟨j,b8,d⟩ A h->R () h)->b.wp (assignInOrder l aj) R s:=by
 induction f with
 |nil=>
  intro q d s E aj R fn i S r e k;cases E with
  |cons=>exact nn e
  |nil=>injection e with e;subst e;exact r.jz (assignInOrder_nil (k (St.1 _) fn .refl S))
 |cons f _ ih=>
  intro q d s E aj R fn i S r e k;cases E with
  |nil=>exact nn e
  |cons v E=>exact r.ie λc cs a r=>assignInOrder_cons (f (St.3 fn (i _ (bE ..)) S a λm fn t S=>ih fn (λy n=>i y (cP _ n)) S (r.b_ t) e λo fn J S=>k (St.2 m o) fn (t.trans J) S))
inductive nh:List Nm->List Expr->Prop
 |nil:nh [] []
 |cons (x:Nm) (p:Pos) (xs:List Nm) (ts:List Expr):nh xs ts->nh (x::xs) (.Name x.S p::ts)
theorem F0:∀{xs:List Nm} {ps:List Expr},nh xs (yq xs ps)
 |[],_=>.nil
 |_::_,_=>.cons _ _ _ _ F0
theorem nh.Jm(x:nh xs a)(av:Env):se b av ((assignEach a av).map (·.2)) xs/\(assignEach a av).length=xs.length/\(assignEach a av).findIdx? (·.1)=none:=by
 induction x with
 |nil=>exact aS .nil rfl rfl
 |cons x p xs a _ ih=>exact(aS (.cons (λk=>wpAny_assign_Name k) ih.1) (aP Nat.succ ih.2.1) (by show(List.findIdx? _ (_::_))=none;refine B List.findIdx?_cons ?_;refine B ih.2.2 ?_;rfl))
theorem nh.len(x:nh xs a):a.length=xs.length:=x.rec rfl λY Y Y Y Y i=>aP Nat.succ i
theorem nh.filter(x:nh xs a){f:PySem.Str->Pos->Bool}(b:∀id pos,k (.Name id pos)=if f id pos then some id else none):(a.filterMap k).length<=xs.length/\((a.filterMap k).length=xs.length->a.filterMap k=xs.map (·.S)):=by
 induction x with
 |nil=>exact⟨dR _,λY=>rfl⟩
 |cons x p xs a _ ih=>
  rw[List.filterMap_cons,b];by_cases z:f x.S p=true
  .rw[bA z];exact⟨Nat.succ_le_succ ih.1,λe=>aP (List.cons _) (ih.2 (Nat.succ.inj e))⟩
  .rw[bx z];exact⟨Nat.le_succ_of_le ih.1,λe=>absurd (e▸ih.1) (Nat.not_succ_le_self _)⟩
theorem A7{_:Decidable c}(b:a=z)(d:¬c->y=z):(if c then a else y)=z:=by split;exact b;exact d ‹_›
theorem A8{_:Decidable c}(b:a=z)(d:¬c->y=z\/y=w):(if c then a else y)=z\/(if c then a else y)=w:=by split;exact .inl b;exact d ‹_›
theorem ai0(h:(p.ctorIdx==25)=false):swappedStores [.Tuple a k pos] p av=pure none:=by
 cases p with
 |Tuple=>exact nt h
 |_=>rfl
theorem m6{p:Expr}{R:Prop}(a:∀E k ps,p=.Tuple E k ps->R)(b:(p.ctorIdx==25)=false->R):R:=by
 cases p with
 |Tuple=>exact a _ _ _ rfl
 |_=>exact b rfl
theorem ai1(x:nh xs b)(c:G7 p=true):swappedStores [.Tuple b k pos] p av=pure none\/swappedStores [.Tuple b k pos] p av=pure (some (xs.map (·.S))):=
 m6 (λE f g e=>by
  subst e;have a:E.all (constantsAlone 8)=false:=(lT _).mp c;refine A8 rfl λY=>A8 rfl λY=>A8 rfl λd=>A8 rfl λY=>.inr ((bx (by rw[a];exact gH)).trans (aP (λl=>pure (some l)) ((x.filter λY Y=>rfl).2 (Eq.trans (Decidable.byContradiction λh=>d ?_) x.len))))
  exact(Bool.or_eq_true _ _).mpr (.inl (bne_iff_ne.mpr h))) λh=>.inl (ai0 h)
theorem Cc(b:List Expr)(k pos)(n:Nat)(av:Env)(a:rQ p=true):swapsWithSole [.Tuple b k pos] p n av=pure false:=by clear a;cases p<;>first|rfl|cases a
theorem afF(xs:List Nm)(av:Env):se b av ((xs.map (·.S)).reverse.map λn=>bindName av n) xs.reverse:=aT List.map_reverse<|B fk<|go xs.reverse
where go:∀ys:List Nm,se b av (ys.map λy:Nm=>bindName av y.S) ys
 |[]=>.nil
 |_::ys=>.cons (λk=>wpAny_bindName k) (go ys)
theorem wH(S:aN L q A s)(ext:Heap.ExtBut s.heap.objs.size s.heap a):aN L q A {s with heap:=a,toks:=s.toks}/\TL s.heap a:=
 haveI n:=BF (oa s.heap (dR _))
 ⟨S.kf S.size n ext,S.tl (λb o k Y=>ext b o k) n⟩
theorem agR{b:bM g}(h:rQ p=true)(m:G7 p=true)(i:nh xs o)(j:∀x∈xs,lc b.kd x.S=true)(nd:xs.Nodup)(x:bz b a p):je b (.jE xs a) (.Assign [.Tuple o k C] p pos):=λL q A Q s fn l S=>by
 refine(ai1 i m).elim (λhw=>Assign_Tuple (x.then fn.1 l S λ{_ _ d u} z t S r=>cF z λE e z=>?_) (Cc _ _ _ _ _ h) hw) λhw=>Assign_Tuple_swapped (x.then fn.1 l S λ{_ _ d u} z t S r=>cF z λE e z=>?_) (Cc _ _ _ _ _ h) hw
 .refine bH.Cg z.1 r λD aj n f cr Y=>br (i.Jm (b:=b) L.av) λb1 b2 b3=>wpAny_assign_Tuple b.hh (te f) (by simp only[b2,gN,<-cr.len];exact tL z.2.1) b3 λv ext=>?_
  haveI c:=wH S ext;exact GP D7 b1 fn j c.1 (cr.b_ c.2) z.2.1 λk fn J S=>⟨.next,⟨_,_,e⟩,d,z.2.2,t.trans (c.2.trans J),k,fn,S,.next⟩
 .refine bH.Cg z.1 r λD aj n f cr Y=>?_;haveI w:(xs.map (·.S)).length=aj.toArray.size:=by simp only[b9,gN,<-cr.len];exact tL z.2.1
  refine B w<|unpackItems_tuple b.hh (tc f) λv ext=>?_;have c:=wH S ext;exact GP D7 (afF xs L.av) fn (λx y=>j x (List.mem_reverse.mp y)) c.1 (cr.b_ c.2).bW (Qq nd z.2.1) λk fn J S=>⟨.next,⟨_,_,e⟩,d,z.2.2,t.trans (c.2.trans J),k,fn,S,.next⟩
theorem bX.ahc{R:Prop}(r:bX g h [v,w] aj)(k:∀c d,aj=[c,d]->bH g h v c->bH g h w d->R):R:=by
 cases r with
 |cons _ c _ _ a r=>cases r with
  |cons _ d _ _ e r=>cases r;exact k c d rfl a e
theorem PF{b:bM g}{L:bQ g}{P:V->V->H->Prop}(l:fI p=true)(m:fI u=true)(x:bz b a p)(y:bz b c u)(ko:gP b.kd L.av)(o:aB b.C a q.bK A λv A=>aB b.C c q.bK A (P v))(S:aN L q A s)
 (z:∀{v w A h D aj n i j},P v w A->TL s.heap h.heap->aN L q A h->h.heap.get? D=some (fV aj n)->aj=[i,j]->bH g h.heap v i->bH g h.heap w j->R (.ref D) h):b.wp (eval (.Tuple [p,u] k pos) L.av) R s:=
 haveI he:aB b.C (.aE [a,c]) q.bK A λv A=>∃x y,v=.aE [x,y]/\P x y A:=by
  show aB b.C a q.bK A λv A=>aB b.C c q.bK A λx A=>∃y z,V.aE [v,x]=.aE [y,z]/\P y z A;simpa only[V.aE.injEq,List.cons.injEq,and_true,exists_and_left,exists_eq_left',and_assoc] using o
 (Pr (Gh l x (Gh m y Pw)) (by decide:2<=16)).then ko he S λw t S r=>cF w λv w y=>bH.Cg y.1 r λD aj n i cr Y=>cr.ahc λc d e a f=>z y.2 t S i e a f
theorem ag4(n:fI p=true)(v:fI u=true)(x:bz b o l)(w:bz b i r)(C:bz b o y)(E:bz b j G)(I:bz b a p)(J:bz b c u):
 je b (.rX o i j a c) (.Assign [.Tuple [.Subscript l r M,.Subscript y G N] k Z] (.Tuple [p,u] k2 p2) pos):=λL q A Q s fn P S=>
 Assign_Tuple (PF n v I J fn.1 P S λ{_ _ _ _ D _ _ _ _} z t S R e W rc=>by
  subst e;refine wpAny_assign_Tuple b.hh (te R) rfl rfl λh' ext=>?_;have d:=wH S ext;exact assignInOrder_cons (H_ (bz.eM x w fn.1 z d.1 λz f S g h=>Fj (D:=0) S ((W.b_ d.2).b_ f) g h z λz t3 S=>
   assignInOrder_cons (H_ (bz.eM C E fn.1 z S λz m S g h=>Fj (D:=0) S ((((rc.b_ d.2).b_ f).b_ t3).b_ m) g h z λz X S=>
    assignInOrder_nil (.next (t.trans (d.2.trans (f.trans (t3.trans (m.trans X))))) .refl z fn S)))))) (Cc _ _ _ _ _ rfl) (A7 rfl λY=>A7 rfl λY=>rfl)
theorem ag2(i:fI p=true)(j:fI u=true)(x:bz b o l)(r:bz b o y)(v:bz b a p)(w:bz b c u):
 je b (.tK o n m a c) (.Assign [.Tuple [.Attribute l n.S C,.Attribute y m.S E] k N] (.Tuple [p,u] P R) pos):=λL q A Q s fn G S=>
 Assign_Tuple (PF i j v w fn.1 G S λ{_ _ _ _ D _ _ _ _} z t S I e J rc=>by
  subst e;refine wpAny_assign_Tuple b.hh (te I) rfl rfl λW ext=>?_;have d:=wH S ext;exact assignInOrder_cons (H9 (x.then fn.1 z d.1 λz f S g=>De S ((J.b_ d.2).b_ f) g z λz t3 S=>
   assignInOrder_cons (H9 (r.then fn.1 z S λz h S g=>De S ((((rc.b_ d.2).b_ f).b_ t3).b_ h) g z λz M S=>
    assignInOrder_nil (.next (t.trans (d.2.trans (f.trans (t3.trans (h.trans M))))) .refl z fn S)))))) (Cc _ _ _ _ _ rfl) (A7 rfl λY=>A7 rfl λY=>rfl)
theorem ajz{b:bM g}(fP:b.wp (isTrue p av (eval p av)) (λi h=>if i then b.wp (execs bd av) (λf a=>match f with
 |.next|.cont=>codeAny (model g.prog g.w) b.aa (.whileLoop p bd j av) R a
 |.brk=>R (.ok .next) a
 |.ret v=>R (.ok (.ret v)) a) h
 else b.wp (execs j av) (λf a=>R (.ok f) a) h) s):codeAny (model g.prog g.w) b.aa (.whileLoop p bd j av) R s:=by
 refine codeAny_of_tree<|wpAny_noted<|cD (wpAny_mono fP (λi h e=>?_) λY Y d=>d.elim);cases i with
 |false=>
  rw[bx gH]at e;exact cD (wpAny_mono e (λf a c=>dX c) λY Y d=>d.elim)
 |true=>
  rw[bA rfl]at e;refine cD (wpAny_mono e (λf a c=>?_) λY Y d=>d.elim);cases f with
  |next=>exact dX ⟨rfl,c⟩
  |cont=>exact dX ⟨rfl,c⟩
  |brk=>exact dX c
  |ret v=>exact dX c
theorem ag6{b:bM g}(x:ke b c p)(y:lX b t bd):je b (.kY c t) (.While p bd [] pos):=λL q A Q s fn m S=>by
 refine wpAny_While ?_;haveI n:=m;refine n (λl A=>∀{m0 b8 a},TL s.heap a.heap->kI q.mu b8->jO b.kd L b8->aN L ⟨m0,b8,l⟩ A a->codeAny (model g.prog g.w) b.aa (.whileLoop p bd [] L.av) (λr a=>match r with|.ok f=>lh b.kd L q.mu s.heap Q f a|.error e=>cameBackBy (model g.prog g.w) b.aa L.av jj e a) a) (λl A z m0 b8 a tl k fn S=>ajz ?_) .refl .refl fn S
 refine x.then fn.1 z S λ{i o s2} z d S=>?_
 cases i with
 |false=>
  exact B (bx gH) (wpAny_execs_nil (.next (tl.trans d) k (z.2 rfl) fn S))
 |true=>
  rw[bA rfl];refine dD (y L ⟨m0,b8,l⟩ o _ s2 fn (z.1 rfl) S) λr=>?_;cases r with
  |mk f h j z t3 u fn S r=>
   have tl:=tl.trans (d.trans t3);haveI k:=k.trans u;cases r with
   |next=>exact z tl k fn S
   |cont=>exact z tl k fn S
   |brk=>exact⟨.next,h,j,z,tl,k,fn,S,.next⟩
   |ret r=>exact⟨.ret _,h,j,z,tl,k,fn,S,.ret r⟩
inductive Tg:Bool->List Nm->Expr->Prop
 |cC (x:Nm) (p:Pos):Tg false [x] (.Name x.S p)
 |aE (xs:List Nm) (ts:List Expr) (k:Nat) (p:Pos):nh xs ts->Tg true xs (.Tuple ts k p)
theorem G0(z:Ce ok aE xs=true):Tg aE xs (GZ aE xs e)/\(∀x∈xs,ok x.S=true)/\xs.Nodup:=by
 refine aS ?_ (iI.mp (aL z)) (dQ (aL (aR z)));cases aE with
 |true=>exact .aE _ _ _ _ F0
 |false=>exact L1 (bq (aR (aR z))) λx=>.cC x _
theorem Q0{L:bQ g}{K:Lq->Lq->Prop}(St:we b L P' K ok)(fn:P' q.mu)(l:Tg aE xs f)(h:∀x∈xs,ok x)(S:aN L q A s)(r:bH g s.heap v i)(z:fA aE xs v q.bK P)(ja:∀{m o pos T R},R () s->b.wp (letOwnedTupleGo (.Tuple m o pos) (.ref u) (.ref T)) R s)
 (k:∀{j b8 a c},P a->K q ⟨j,b8,a⟩->P' b8->TL s.heap c.heap->aN L ⟨j,b8,a⟩ A c->R () c):b.wp (letOwnedTupleGo f (.ref u) i) (λY w=>b.wp (assign f L.av i) R w) s:=by
 cases l with
 |cC x p=>
  refine az z λa z=>?_;cases z.1;exact dX (wpAny_assign_Name (St.3 fn (h x (jo _)) S r λd fn t S=>k z.2 d fn t S))
 |aE xs G n p y=>
  refine cF z λE a z=>r.Cg z.1 λD aj n C cr Y=>ja (br (y.Jm (b:=b) L.av) λb1 b2 b3=>wpAny_assign_Tuple b.hh (te C) (by simp only[b2,gN,<-cr.len];exact tL z.2.1) b3 λI ext=>?_)
  haveI e:=wH S ext;exact GP St b1 fn h e.1 (cr.b_ e.2) z.2.1 λd fn t S=>k z.2.2 d fn (e.2.trans t) S
inductive yS{g:Gd}(b:bM g)(L:bQ g)(mu:Addr->Option Obj)(h:Heap)(ws:List V)(dm:H->Prop)(It:Nat->Obj->Prop)(ak:Addr)(aE:Bool)(xs:List Nm)(t:List St)(Q:Fl->aH->H->Prop):Nat->Shared->Prop
 |mk (i:Nat) (q:Lq) (A:H) (o:Obj) (s:Shared):i<=ws.length->It i o->q.mu ak=some o->kI mu q.mu->TL h s.heap->jO b.kd L q.mu->aN L q A s->oK (λv l A R=>fA aE xs v l λl'=>Ss b.C t l' A R) dm (ws.drop i) q.bK A Q->yS b L mu h ws dm It ak aE xs t Q (ws.length+1-i) s
theorem kI.dF(e:mu b=none):kI mu (dF mu b y):=λa o z Y=>(dA λn=>by rw[n,e]at z;exact nn z).trans z
theorem jO.dF(fn:jO kd L mu)(e:∀o,mu a=some o->iY o):jO kd L (dF mu a y):=fn.sub λc o v z d=>cE o v (fF ((dA λn:c=a=>(e o (aT n z)).1 _ d).trans z) d)
theorem afs{L:bQ g}(ht:Tg aE xs tg)(hl:∀x∈xs,lc b.kd x.S=true)(y:lX b t bd)(fn:jO b.kd L q.mu)(x:tX b L q h (λA ws E=>oK (λv l A R=>fA aE xs v l λG=>Ss b.C t G A R) E ws q.bK A Q) cv s):
 codeAny (model g.prog g.w) b.aa (.forLoop tg cv bd [] L.av) (λr N=>match r with|.ok f=>lh b.kd L q.mu h Q f N|.error e=>cameBackBy (model g.prog g.w) b.aa L.av jj e N) s:=by
 cases x with
 |mk s j o A ws E It z oY S e it eC W=>
  have c:=W.1 0 o it;refine codeAny_forLoop_any (yS b L q.mu s.heap ws E It j aE xs t Q) (λn N hI=>?_) (ws.length+1) (.mk 0 ⟨q.m0,dF q.mu j (some o),q.bK⟩ A o s (fw _) it fC (.dF eC.4) .refl (fn.dF λY e=>gM eC.4 e) (S.oj eC c.2 e) z);cases hI with
  |mk i I af o' N hi pP hm k tl JX S' p=>
   have P:=(S'.7 _ _ hm).1;haveI c:=W.1 i o' pP;by_cases J:i<ws.length
   .have p:=(List.drop_eq_getElem_cons J)▸p;refine wpAny_mono (W.2 tl S' P pP p.1 (dZ J) λcv h' tk X r u_ e2 M=>?_) (λY Y x=>x) λY Y x=>x.elim;have S2:=S'.swap (tk:=tk) hm c.2 c.1 M.extBut e2;have Z:=S'.tl (λb o n Y=>M.extBut b o n) λaj n y=>c.2 aj n (dH (P.symm.trans y));have xe:jO b.kd L (dF I.mu j (some X)):=JX.dF λY y=>dH (hm.symm.trans y)▸c.1;have k2:kI q.mu (dF I.mu j (some X)):=λa u y f=>(dA λn=>gM eC.4 (n▸y)).trans (k a u y f);haveI Ww:=W.1 _ _ u_;refine wpAny_mono (Q0 D7 xe ht hl S2 (r.b_ Z) p.2 (R:=λY jl=>b.wp (execs bd L.av) (λf j9=>match f with
     |.next|.cont=>∃m,m<ws.length+1-i/\yS b L q.mu s.heap ws E It j aE xs t Q m j9
     |.brk=>lh b.kd L q.mu h Q .next j9
     |.ret v=>lh b.kd L q.mu h Q (.ret v) j9) jl) (λk=>W.4 e2 u_ k) λ{kN b8 G s2} z3 k3 Wt t3 S3=>?_) (λY s1 h1=>wpAny_mono h1 (λY s2 h2=>wpAny_mono h2 (λf s3 h3=>h3) λY Y x=>x.elim) λY Y x=>x.elim) λY Y x=>x.elim
    refine dD (y L ⟨kN,b8,G⟩ af _ s2 Wt z3 S3) λr=>?_;cases r with
    |mk f q4 yQ z4 t4 k4 D6 S4 r=>
     have G3:=tl.trans (Z.trans (t3.trans t4));have kk:=(k2.trans k3).trans k4;haveI again:oK (λv l A R=>fA aE xs v l λG=>Ss b.C t G A R) E (ws.drop (i+1)) q4.bK yQ Q->∃m,m<ws.length+1-i/\yS b L q.mu s.heap ws E It j aE xs t Q m _:=λz=>
      ⟨_,Nat.sub_lt_sub_left (Nat.lt_succ_of_lt J) (k5 i),.mk (i+1) q4 yQ X _ J u_ ((k3.trans k4) j X fC Ww.1.1) kk G3 D6 S4 z⟩
     cases r with
     |next=>exact again z4
     |cont=>exact again z4
     |brk=>exact⟨.next,q4,yQ,z4,oY.trans G3,kk,D6,S4,.next⟩
     |ret r=>exact⟨.ret _,q4,yQ,z4,oY.trans G3,kk,D6,S4,.ret r⟩
   .have uU:=Nat.le_antisymm hi (Nat.not_lt.mp J);rw[uU,List.drop_length]at p;refine wpAny_mono (W.5 tl S' P (uU▸pP) p.1 λh' tk M=>?_) (λY Y x=>x) λY Y x=>x.elim;have d:=S'.drop hm c.1;have it:=λaj n y=>c.2 aj n (dH (P.symm.trans y));haveI Z:=S'.tl (λb o n Y=>M b o n) it;exact wpAny_execs_nil (.next (q:=⟨I.m0,dF I.mu j none,I.bK⟩) (oY.trans (tl.trans Z)) (λa u y f=>(dA λn=>gM eC.4 (n▸y)).trans (k a u y f)) p.2 (JX.dF λY y=>dH (hm.symm.trans y)▸c.1) (d.1.kf d.2 it M))
def t9(b:bM g)(k:sj)(es:List a7)(p:Expr):Prop:=
 (∀av x,foldedSetIterable p av x=pure x)/\∀L q A s R,gP b.kd L.av->Es b.C es q.bK A (λE A=>oo k E A (R A))->aN L q A s->b.wp (eval p L.av) (λa c=>b.wp (pyIter a) (tX b L q s.heap R) c) s
theorem JZ(h:u9 p=false):∀av x,foldedSetIterable p av x=pure x:=λav x=>by cases p<;>first|rfl|exact nt h
theorem Pn(hf:u9 p=false)(x:bz b a p):t9 b .seq [a] p:=⟨JZ hf,λL q A s R ko c S=>x.then ko c S λz t S r=>N9 t S r z⟩
theorem aga(a:iQ b.kd "range"=true)(ha:Args b es ps):t9 b .eV es (.Call (.Name (PS "range") np) ps [] pos):=⟨λY Y=>rfl,λL q A s R ko c S=>dD (Qf a ha ko c S) aeD⟩
theorem agW{b:bM g}(a:Tg aE xs c)(d:∀x∈xs,lc b.kd x.S=true)(x:t9 b k es p)(y:lX b t bd):je b (.for aE xs k es t) (.For c p bd [] pos):=λL q A Q s fn e S=>
 wpAny_For (dD (x.2 L q A s _ fn.1 e S) λz=>dD z λz=>afs a d y fn z) (x.1 _)
theorem af1(y:Nm):y.S≠PS ".0":=bne_iff_ne.mp (Nm.mV (p:=λy=>y.S !=_) (by decide+kernel) y)
theorem ahA(av:Env)(names:List (PySem.Str×NameKind))(x:PySem.Str):(λl=>l=names.lookup x\/names.lookup x=some .free/\l=some .cell) ((names.map λ(n,k)=>if(k==NameKind.free&&av.scope.kind== .function&&av.kindOf n==some .cell)then(n,NameKind.cell)else(n,k)).lookup x):=by
 dsimp only
 induction names with
 |nil=>exact .inl rfl
 |cons p names ih=>
  obtain⟨n,k⟩:=p;refine B List.map_cons ?_;by_cases c:(k==NameKind.free&&av.scope.kind== .function&&av.kindOf n==some .cell)=true
  .refine B (bA c)<|B List.lookup_cons<|B List.lookup_cons ?_;cases x==n with
   |true=>exact .inr ⟨aP some (bq (gK (gK c).1).1),rfl⟩
   |false=>exact ih
  .refine B (bx c)<|B List.lookup_cons<|B List.lookup_cons ?_;cases x==n with
   |true=>exact .inl rfl
   |false=>exact ih
noncomputable def wG(av:Env)(p:PySem.Str×NameKind):PySem.Str×Addr:=(p.1,(av.cells.lookup p.1).getD 0)
theorem IL(av:Env):∀(names:List (PySem.Str×NameKind)) (cs:List (PySem.Str×Addr)),(∀p∈names,p.2=.free->∃c,av.cells.lookup p.1=some c)->
 (forIn names cs (λ(p:PySem.Str×NameKind) (r:List (PySem.Str×Addr))=>(do
   if(p.2==NameKind.free)=true then do let a<-cellOf av p.1;pure (ForInStep.yield ((p.1,a)::r))else pure (ForInStep.yield r):Sem (ForInStep (List (PySem.Str×Addr))))))=(pure (((names.filter (·.2== .free)).map (wG av)).reverse++cs):Sem _)
 |[],_,_=>rfl
 |p::names,cs,h=>by
  haveI ih:=λcs=>IL av names cs λq hq=>h q (cP _ hq);rw[List.forIn_cons];refine B List.filter_cons ?_;cases q:p.2== .free with
  |true=>
   refine az (h p (bE ..) (bq q)) λc b=>?_;haveI e:cellOf av p.1=pure (wG av p).2:=by unfold cellOf wG;refine B b ?_;rfl
   rw[bA rfl,e,bA rfl,List.map_cons,List.reverse_cons,iX];exact ih (wG av p::cs)
  |false=>
   exact B (bx gH)<|B (bx gH)<|ih cs
noncomputable def zK(sc:Scope)(av:Env):List (PySem.Str×Addr):=((sc.names.filter (·.2== .free)).map (wG av)).reverse
theorem afp{l:List (PySem.Str×Addr)}{f:PySem.Str->Addr}(h:∀p∈l,p.2=f p.1)(a:∃p∈l,p.1=x):l.lookup x=some (f x):=by
 induction l with
 |nil=>exact az a λY z=>absurd z.1 gh
 |cons p l ih=>
  refine List.lookup_cons.trans ?_;cases q:x==p.1 with
  |true=>show some _=_;exact B (h p (bE ..))<|B (bq q) rfl
  |false=>exact ih (λp hp=>h p (cP _ hp)) (az a λy z=>(dW.mp z.1).elim (λe=>absurd (z.2.symm.trans (aP Prod.fst e)) (beq_eq_false_iff_ne.mp q)) λm=>⟨y,m,z.2⟩)
noncomputable def bQ.re(L:bQ g)(av:Env)(k:av.scope.kind=.function)(gl:av.globals=mainGlobals)(bu:av.builtins=builtinsNs):bQ g:=⟨av,L.ae,L.G,L.s0,L.dM,L.gl,L.above,k,gl,bu⟩
theorem aN.BR(S:aN L q A s)(k:av.scope.kind=.function)(gl:av.globals=mainGlobals)(bu:av.builtins=builtinsNs)(hm:∀a o,b8 a=some o->q.mu a=some o)(lr:iA s.heap (L.re av k gl bu) ⟨q.m0,b8,b⟩):aN (L.re av k gl bu) ⟨q.m0,b8,b⟩ A s:=⟨
 S.1,
 S.2,
 S.3,
  lr,
 S.5,
  λa o e=>br (S.6 a o e) λc d f=>aS c d (jT λx e=>gM f (hm _ x e)),
  λa o e=>S.7 a o (hm a o e),
 S.8⟩
theorem iA.FF(r:iA h L q)(k:∀x v,b x=some v->q.bK x=some v):iA h L ⟨q.m0,q.mu,b⟩:=by
 cases r with
 |ja e a=>exact .ja e λx v e=>a x v (k x v e)
 |lZ c m e n a=>exact .lZ c m e n λx v e=>a x v (k x v e)
theorem aN.FF(S:aN L q A s)(k:∀x v,a x=some v->q.bK x=some v):aN L ⟨q.m0,q.mu,a⟩ A s:=S.BR L.kind L.qg L.ud (λY Y e=>e) (S.4.FF k)
theorem aN.zT(S:aN L q A s)(e:b.G=L.G)(hL:b.ae=L.ae)(hm:q.mu a=some o)(f:g.mu a=none):nU b g A a:=br (S.7 a o hm) λY c d=>⟨S.tu hm,B e d,B hL c,f⟩
def mL(b:bM g)(L:bQ g)(xs:List Nm)(sc:Scope):Prop:=Q7
 (sc.kind=.function)
 (∀p∈sc.names,p.2≠.cell)
 (∀p∈sc.names,p.2=.local->sc.names.lookup p.1=some .local/\(p.1=PS ".0"\/∃x∈xs,x.S=p.1))
 (∀p∈sc.names,p.2=.free->b.kd p.1=some .cell)
 (∀p∈sc.names,p.2≠.globalExplicit)
 (closureFor sc L.av=pure (zK sc L.av))
 (∀x,sc.names.lookup x=some .free->∃c,(zK sc L.av).lookup x=some c/\L.av.cells.lookup x=some c)
theorem IQ(z:wK b.kd sc xs=true)(ko:gP b.kd L.av):mL b L xs sc:=by
 haveI a:=gK z;have key:∀p∈sc.names,(p.2≠.cell/\(p.2=.local->sc.names.lookup p.1=some .local/\(p.1=PS ".0"\/∃x∈xs,x.S=p.1)))/\(p.2=.free->b.kd p.1=some .cell)/\p.2≠.globalExplicit:=λp hp=>by
  have y:=gK (iI.mp a.2 p hp);haveI d:=gK y.1;haveI g:=gK d.1;haveI or:∀{k h:NameKind} {x:Bool},(k !=h||x)=true->k=h->x=true:=λz e=>by subst e;rw[bne_self_eq_false]at z;exact z
  refine aS ⟨bne_iff_ne.mp g.1,λe=>?_⟩ (λe=>bq (or d.2 e)) (bne_iff_ne.mp y.2);haveI w:=gK (or g.2 e);exact⟨bq w.1,((Bool.or_eq_true _ _).mp w.2).imp bq λw=>az (mG.mp w) λx w=>⟨x,w.1,bq w.2⟩⟩
 have i:=λp hp e=>ko.4 _ (.inl ((key p hp).2.1 e));refine⟨bq a.1,λp hp=>(key p hp).1.1,λp hp=>(key p hp).1.2,λp hp=>(key p hp).2.1,λp hp=>(key p hp).2.2,?_,λx j=>az (i _ (ji j) rfl) λc e=>⟨c,?_,e⟩⟩
 .haveI e:=aP (λm=>m>>=pure) (IL L.av sc.names [] i);rw[fQ]at e;exact e
 .haveI f:((L.av.cells.lookup x).getD 0)=c:=by refine B e ?_;rfl
  refine aT f (afp (f:=λx=>(L.av.cells.lookup x).getD 0) (λp hp=>?_) ⟨_,List.mem_reverse.mpr (List.mem_map_of_mem (dU.mpr ⟨ji j,rfl⟩)),rfl⟩);exact az (cW.mp (List.mem_reverse.mp hp)) λu z=>z.2▸rfl
noncomputable abbrev kM(L:bQ g)(sc:Scope)(D:Addr):Env:=compEnvC sc (zK sc L.av) D L.av
noncomputable def mL.wN{L:bQ g}(z:mL b L xs sc)(D:Addr):bQ g:=L.re (kM L sc D) z.1 L.qg L.ud
noncomputable def bM.rG(b:bM g)(sc:Scope):bM g:={b with kd:=mB sc}
theorem mL.Bb(z:mL b L xs sc)(x:PySem.Str):(kM L sc D).kindOf x=sc.names.lookup x\/sc.names.lookup x=some .free/\(kM L sc D).kindOf x=some .cell:=ahA L.av sc.names x
theorem mL.aeC(z:mL b L xs sc)(n:(kM L sc D).kindOf x=some .cell\/(kM L sc D).kindOf x=some .free):sc.names.lookup x=some .free:=by
 rcases z.Bb x with e|e
 .rw[e]at n;exact n.resolve_left λn=>z.2 _ (ji n) rfl
 .exact e.1
theorem mL.ko(z:mL b L xs sc):gP (mB sc) (kM L sc D):=by
 have k:∀{x:PySem.Str} {k:NameKind},sc.names.lookup x=some k->k≠.free->(kM L sc D).kindOf x=some k:=λ{x k} e n=>(z.Bb x).elim (λy=>y.trans e) λy=>absurd (dH (e.symm.trans y.1)) n;have a:∀{x:PySem.Str},mB sc x=some .cell\/mB sc x=some .free->sc.names.lookup x=some .free:=λe=>e.resolve_left λe=>z.2 _ (ji e) rfl;exact⟨λx e=>k e nofun,λx e=>k e nofun,λx e=>(z.Bb x).elim (λy=>.inr (y.trans (a e))) λy=>.inl y.2,λx e=>az (z.7 x (a e)) λc y=>⟨c,y.1⟩,λe=>absurd rfl (z.5 _ (ji e))⟩
noncomputable def pS(xs:List Nm)(l:aH):aH:=λy=>if y∈xs then none else l y
theorem OT:∀x∈xs,pS xs l x=none:=λY h=>bA h
theorem afH(e:pS xs l x=some v):x∉xs/\l x=some v:=by
 unfold pS at e;by_cases z:x∈xs
 .rw[bA z]at e;exact nn e
 .rw[bx z]at e;exact⟨z,e⟩
theorem vF:∀{xs:List Nm} {E:List V} {l a:aH} {y:Nm},ik xs E l=some a->y∉xs->a y=l y
 |[],[],_,_,_,e,_=>by injection e with e;subst e;rfl
 |x::xs,v::E,l,a,y,e,n=>(vF (xs:=xs) e λm=>n (cP _ m)).trans (bx λq:y=x=>n (dW.mpr (.inl q)))
 |_::_,[],_,_,_,e,_=>nn e
 |[],_::_,_,_,_,e,_=>nn e
theorem Qp:∀{xs:List Nm} {E:List V} {l a:aH},(∀y,y∉xs->l y=a y)->ik xs E l=ik xs E a
 |[],[],_,_,k=>aP some (funext λy=>k y gh)
 |x::xs,v::E,l,a,k=>Qp (xs:=xs) λy n=>by
  unfold aH.set;by_cases z:y=x
  .rw[bA z,bA z]
  .rw[bx z,bx z];exact k y λm=>(dW.mp m).elim z n
 |_::_,[],_,_,_=>rfl
 |[],_::_,_,_,_=>rfl
theorem T8(z:fA aE xs v l R):fA aE xs v (pS xs l) R:=by
 have e:∀E,ik xs E (pS xs l)=ik xs E l:=λE=>Qp λy n=>bx n;cases aE with
 |true=>exact cF z λE a z=>cE E a (aS z.1 ((e E).trans z.2.1) z.2.2)
 |false=>exact az z λa z=>⟨a,(e _).trans z.1,z.2⟩
theorem T7(x:fA aE xs v l R):fA aE xs v l λb=>R b/\∀R':aH->Prop,fA aE xs v l R'->R' b:=by
 cases aE with
 |true=>exact cF x λE b a=>(cE E b (cg a.1 a.2.1 a.2.2 (λR' z=>cF z λd e c=>by
  cases a.1.symm.trans c.1;cases a.2.1.symm.trans c.2.1;exact c.2.2)))
 |false=>exact az x λb a=>(cR b (aS a.1 a.2 λR' z=>az z λe c=>by cases a.1.symm.trans c.1;exact c.2))
theorem iA.cellOf{L:bQ g}(r:iA h L q)(e:q.bK x=some v)(n:L.av.kindOf x.S=some .cell\/L.av.kindOf x.S=some .free):∃c o b,L.av.cells.lookup x.S=some c/\(q.mu c=some o\/L.G c=some o)/\o.data=.cell (some b)/\bH g h v b:=by
 cases r with
 |ja _ a=>exact(a x v e).2 n
 |lZ _ _ _ _ a=>exact(a x v e).2 n
theorem mL.wZ(z:mL b L xs sc)(ko:gP b.kd L.av)(lr:iA h L q)(hm:∀a o,q.mu a=some o->b8 a=some o)(e:b8 D=some d)(n:LCg.NsObj d m):iA h (z.wN D) ⟨q.m0,b8,pS xs q.bK⟩:=
 .lZ d m e n λx v y=>by
  haveI y:=afH y;refine⟨λk=>?_,λk=>?_⟩
  .haveI k:=(z.Bb x.S).elim (λy=>y.symm.trans k) λy=>nomatch y.2.symm.trans k
   exact(z.3 _ (ji k) rfl).2.elim (λe=>absurd e (af1 x)) λw=>az w λu w=>absurd (y_ w.2▸w.1) y.1
  .haveI k:=z.aeC k;exact d7 (lr.cellOf y.2 (ko.3 _ (.inl (z.4 _ (ji k) rfl)))) λc o g w=>az (z.7 _ k) λi f=>by
    cases w.1.symm.trans f.2;exact d_ c o g (aS f.1 (w.2.1.imp (hm c o) id) w.2.2)
theorem mL.GO(z:mL b L xs sc)(C:D≠L.ae):we b (z.wN D) (λY=>True) (λq i=>i.m0=q.m0/\∀a o,a≠D->q.mu a=some o->i.mu a=some o) λx=>sc.names.lookup x.S=some .local:=⟨
 λq=>⟨rfl,λY Y Y e=>e⟩,
  λa b=>⟨b.1.trans a.1,λc o n e=>b.2 c o n (a.2 c o n e)⟩,
 λ{q A s x v j R} _ E S r k=>by
 have kk:(kM L sc D).kindOf x.S=some .local:=lookup_relabel_local E;haveI g:((kM L sc D).scope.kind== .class||(kM L sc D).scope.kind== .module&&(kM L sc D).locals !=(kM L sc D).globals)=false:=by refine B (show(kM L sc D).scope.kind=.function from z.1) ?_;rfl
 cases S.4 with
 |ja e=>exact absurd e C
 |lZ G m e n I=>
  haveI l:=S.7 _ _ e;have it:∀aj n,G≠fV aj n:=λY Y q=>cF n λes J z=>by rw[q]at z;exact nomatch z.1
  refine wpAny_storeName_local (env:=kM L sc D) kk (n.ns l.1) (λQ M p=>az (LCg.ns_obj M) λh y=>?_) g;haveI t:=S.tl (λb o n Y e=>p.extBut b o n e) λaj n e=>it aj n (dH (l.1.symm.trans e));refine k (b8:=dF q.mu D (some h)) ⟨rfl,λa o n e=>(dA n).trans e⟩ trivial t (S.GS e it p.extBut y.1 λt=>.lZ h _ fC y.2 λu w N=>(Bm N).elim (λw=>?_) λw=>?_)
  .exact B w.1<|B w.2<|⟨λY=>⟨j,bA rfl,r.b_ t⟩,λn=>n.elim (λn=>nomatch kk.symm.trans n) λn=>nomatch kk.symm.trans n⟩
  .have aa:=(I u _ w.2).kf (b8:=dF q.mu D (some h)) t λc o j f d=>(dA λy=>by
    replace f:=y▸f;cases dH (f.symm.trans e);exact cF n λes J z=>(nomatch z.1.symm.trans d)).trans f
   exact⟨λn=>az (aa.1 n) λP y=>⟨P,(bx (CP w.1)).trans y.1,y.2⟩,aa.2⟩⟩
structure wg{g:Gd}(b:bM g)(e:Expr)(eU:Nat)(it cA:Value)(av:Env)(tg:Expr)(body:(Shared->Prop)->Shared->Prop):Prop where
 t:∀{Q:Fin->Shared->Prop} {s},
  b.wp (pyNext it) (λr gY=>match r with
   |none=>Q (.done .next) gY
   |some v=>b.wp (letOwnedTupleGo tg it v) (λY jl=>b.wp (assign tg av v) (λY j9=>body (Q (.again (.compLoop e eU it cA av))) j9) jl) gY) s->b.wp (compTurn e eU it cA av) Q s
theorem UW{b:bM g}(T:wg b (.ListComp cN c sc pos) eU it d av e body)(a:Nat->Shared->Prop)
 (fP:∀{n s},a n s->b.wp (pyNext it) (λr f=>match r with
   |none=>R (.ok .next) f
   |some v=>b.wp (letOwnedTupleGo e it v) (λY h=>b.wp (assign e av v) (λY i=>body (λj=>Code.compLoop (.ListComp cN c sc pos) eU it d av=.compLoop (.ListComp cN c sc pos) eU it d av/\∃m,m<n/\a m j) i) h) f) s) (n:Nat) (x:a n s):codeAny (model g.prog g.w) b.aa (.compLoop (.ListComp cN c sc pos) eU it d av) R s:=by
 refine codeAny_loop rfl a (λn s x=>?_) n x;exact wpAny_noted<|wpAny_mono (T.t (fP x)) (λY Y x=>x) λY Y x=>x.elim
noncomputable abbrev yJ(ifs:List Expr)(i:Bool)(av:Env):Sem Bool:=forIn ifs i λc r=>if r=true then do let ok<-isTrue c av (eval c av);pure (ForInStep.yield ok)else pure (ForInStep.yield r)
noncomputable abbrev c8(D:Value)(x:Value):Sem Value:=call (.builtin "list.append") [D,x]
theorem ajh:wg b (.ListComp cN [⟨a,d,ifs,0⟩] sc pos) 0 it c av a λK s=>b.wp (yJ ifs true av) (λok s=>if ok=true then b.wp (eval cN av) (λx s=>b.wp (c8 c x) (λY s=>K s) s) s else K s) s:=.mk λ{Q s} x=>by
 rw[compTurn_list];refine cD (wpAny_standAt (cD (dD x λ{r s} x=>?_)));cases r with
 |none=>exact dX x
 |some v=>exact cD (dD x λx=>cD (dD x λx=>cD (dD x λ{ok s} x=>by
  cases ok with
  |false=>exact dX x
  |true=>exact cD (cD (dD x λx=>cD (dD x λx=>dX (dX x)))))))
theorem aji:wg b (.ListComp cN [d,⟨t1,c,[],0⟩] sc pos) 1 it a av t1 λK s=>b.wp (eval cN av) (λx s=>b.wp (c8 a x) (λY s=>K s) s) s:=.mk λ{Q s} x=>by
 show b.wp (standAt c.pos>>=λY=>pyNext it>>=λr=>match r with
  |none=>pure (.done .next)
  |some v=>letOwnedTupleGo t1 it v>>=λY=>assign t1 av v>>=λY=>(eval cN av>>=λx=>c8 a x>>=λY=>pure ())>>=λY=>again _) _ _
 refine cD (wpAny_standAt (cD (dD x λ{r s} x=>?_)));cases r with
 |none=>exact dX x
 |some v=>exact cD (dD x λx=>cD (dD x λx=>cD (cD (dD x λx=>cD (dD x λx=>dX (dX x))))))
theorem ajj{b:bM g}{t0 c t1 a:Expr}(hf:∀x,foldedSetIterable a av x=pure x):wg b (.ListComp cN [⟨t0,c,[],0⟩,⟨t1,a,[],0⟩] sc pos) 0 it h av t0 λK s=>b.wp (eval a av) (λx s=>b.wp (pyIter x) (λd s=>codeAny (model g.prog g.w) b.aa (.compStart (.ListComp cN [⟨t0,c,[],0⟩,⟨t1,a,[],0⟩] sc pos) 1 d h av) (λr s=>match r with|.ok _=>K s|.error _=>False) s) s) s:=.mk λ{Q s} x=>by
 show b.wp (standAt c.pos>>=λY=>pyNext it>>=λr=>match r with
  |none=>pure (.done .next)
  |some v=>letOwnedTupleGo t0 it v>>=λY=>assign t0 av v>>=λY=>
   eval a av>>=λx=>standAt a.pos>>=λY=>foldedSetIterable a av x>>=λx=>holding [x] (pyIter x)>>=λd=>runOwn (.compStart _ 1 d h av) av>>=λY=>again _) _ _
 refine cD (wpAny_standAt (cD (dD x λ{r s} x=>?_)));cases r with
 |none=>exact dX x
 |some v=>
  refine cD (dD x λx=>cD (dD x λx=>cD (dD x λ{x s} y=>cD (wpAny_standAt (cD (wpAny_of_eq (hf x) (cD (wpAny_holding (dD y λy=>?_)))))))));refine cD (wpAny_runOwn (codeAny_mono y λr s z=>?_));cases r with
  |ok f=>exact dX z
  |error e=>exact z.elim
theorem aiR{b:bM g}(x:codeAny (model g.prog g.w) b.aa (.compLoop (.ListComp cN [a,⟨t1,c,[],0⟩] sc pos) 1 it d av) R s)
 (y:b.wp (pyIter it) (λe f=>codeAny (model g.prog g.w) b.aa (.compLoop (.ListComp cN [a,⟨t1,c,[],0⟩] sc pos) 1 e d av) R f) s):
 codeAny (model g.prog g.w) b.aa (.compStart (.ListComp cN [a,⟨t1,c,[],0⟩] sc pos) 1 it d av) R s:=by
 refine codeAny_of_tree<|wpAny_notedAt<|cD (wpAny_askSetting (wpAny_ite ?_))
 split
 .first
   |exact cD (dX (dX (And.intro rfl x)))
   |exact dX (And.intro rfl x)
 .refine cD (wpAny_rule ?_);exact cD (wpAny_standAt (cD (wpAny_mono y (λe f h=>dX (And.intro rfl h)) λY Y x=>x.elim)))
theorem ai8{b:bM g}(k:Q false s):b.wp (yJ ifs false av) Q s:=by
 induction ifs with
 |nil=>exact dX k
 |cons c ifs ih=>
  unfold yJ;rw[List.forIn_cons];refine B (bx gH) ?_;exact cD (dX ih)
theorem ai9{b:bM g}{L:bQ g}(x:Al (ke b) cs ifs):∀{q A s} {Q:Bool->H->Prop},gP b.kd L.av->mK b.C cs q.bK A Q->aN L q A s->b.wp (yJ ifs true L.av) (pA L q s.heap Q) s:=by
 induction x with
 |nil=>exactλko z S=>dX ⟨_,z,.refl,S⟩
 | @cons e p cs ifs x _ ih=>
  intro q A s Q ko z S;unfold yJ;rw[List.forIn_cons];refine B (bA rfl) ?_;refine cD (cD (x.then ko z S λ{i A s} z t S=>dX ?_))
  cases i with
  |true=>exact dD (ih ko (z.1 rfl) S) (pA.up t)
  |false=>exact ai8 ⟨A,z.2 rfl,t,S⟩
def BS(L:bQ g)(Da:Addr)(b:Addr->Option Obj)(q:Lq)(c:List V)(A:H)(s:Shared):Prop:=Q3
 (∃aj k,q.mu Da=some (eT aj k)/\bX g s.heap c aj)
 (∀a o,b a=some o->q.mu a=some o)
 (aN L q A s)
def yT(a Da b:Addr)(c:Addr->Option Obj):Prop:=Q6
 (a≠Da)
 (b≠Da)
 (b≠a)
 (c a=none)
 (c Da=none)
 (c b=none)
theorem BS.on(a:BS L Da d q E A s)(t:TL s.heap b.heap)(S:aN L q e b):BS L Da d q E e b:=⟨cF a.1 λc k z=>cE c k (fF z.1 (z.2.b_ t)),a.2,S⟩
theorem mr{b:Addr->Option Obj}(e:b a=some o)(h:b c=none):a≠c:=λn=>gM h (aT n e)
theorem BS.c8{b:bM g}{L:bQ g}(d:BS L Da h q E A s)(j:h Da=none)(r:bH g s.heap v l)(p:E.length<=bf){K:Shared->Prop}(k:∀{b8 f},TL s.heap f.heap->BS L Da h ⟨q.m0,b8,q.bK⟩ (E++[v]) A f->K f):b.wp (Mp.c8 (.ref Da) l) (λY s=>K s) s:=
 cF d.1 λaj n z=>append_at (d.3.7 _ _ z.1).1 (λw i e=>by
  haveI it:∀c m,eT aj n≠fV c m:=iY.nt rfl (by decide)
  haveI t:=d.3.tl (λb o n Y e=>i.extBut b o n e) λc m e=>it c m (dH ((d.3.7 _ _ z.1).1.symm.trans e));haveI u:=e.trans (aP (λa=>some (seqObj "list" a (n+1))) (List.push_toArray ..));exact k t ⟨cE _ _ (fF fC (bX.append (.cC (r.b_ t)) (z.2.b_ t))),λa o e=>(dA (mr e j)).trans (d.2 a o e),d.3.swap z.1 it JS i.extBut u⟩) (B gN (yv z.2.len p))
theorem BS.Jo{b:bM g}{L:bQ g}(c:BS L Da e q E A s)(h:e Da=none)(x:bz b a p)(ko:gP b.kd L.av)(z:aB b.C a q.bK A Q)(i:E.length<=bf){K:Shared->Prop}(k:∀{v f b8 d},Q v f->TL s.heap d.heap->BS L Da e ⟨q.m0,b8,q.bK⟩ (E++[v]) f d->K d):b.wp (eval p L.av) (λx s=>b.wp (Mp.c8 (.ref Da) x) (λY s=>K s) s) s:=
 x.then ko z c.3 λz t S r=>(c.on t S).c8 h r i λJ c=>k z (t.trans J) c
theorem T_(x:fA aE xs v l R):fA aE xs v l λc=>R c/\∀y,y∉xs->c y=l y:=by
 cases aE with
 |true=>exact cF x λE b a=>cE E b (cg a.1 a.2.1 a.2.2 λy n=>vF a.2.1 n)
 |false=>exact az x λb a=>cR b (aS a.1 a.2 λy n=>vF a.1 n)
theorem Ea{L:bQ g}(T:wg b (.ListComp cN gs sc pos) eU (.ref h) C L.av tg body)(G:yT Ca Da h j)(ht:Tg aE xs tg)(St:we b L (λY=>True) (λq q'=>q'.m0=q.m0/\∀a o,a≠Ca->q.mu a=some o->q'.mu a=some o) ok)(hl:∀x∈xs,ok x)(hm:∀x∈xs,I x=none)
 (W:Wk b h0 ws dm h It) (P:Nat->List V->H->Prop) (N:Nat->V->aH->List V->H->Prop) (hP:∀{i u C A},ws[i]? =some u->P i C A->dm A/\fA aE xs u I λl=>N i u l C A) (hE:∀{C A},P ws.length C A->dm A)
 (step:∀{i u E A q s o} {K:Shared->Prop},ws[i]? =some u->N i u q.bK E A->TL h0 s.heap->BS L Da (dF j h (some o)) q E A s->(∀{Q X b8 p},P (i+1) Q X->TL s.heap p.heap->BS L Da (dF j h (some o)) ⟨q.m0,b8,q.bK⟩ Q X p->K p)->body K s)
 (bZ:∀{E A b8 p},P ws.length E A->TL h0 p.heap->BS L Da j ⟨q.m0,b8,I⟩ E A p->R (.ok .next) p) (i0:It 0 o) (t0:TL h0 s.heap) (z:P 0 E A) (el:q.bK=I) (J:q.mu h=some o) (f:BS L Da j q E A s):codeAny (model g.prog g.w) b.aa (.compLoop (.ListComp cN gs sc pos) eU (.ref h) C L.av) R s:=by
 refine UW T (λn s=>∃i E A mu o,n=ws.length-i/\i<=ws.length/\It i o/\mu h=some o/\P i E A/\TL h0 s.heap/\BS L Da j ⟨q.m0,mu,I⟩ E A s) (λ{n s} x=>?_) ws.length (mM 0 E A q.mu o (oy rfl (fw _) i0 J z t0 (aT el f)));refine jD x λi E A mu o AE=>vY AE λuP hi it J z tl f=>?_;clear AE;try clear x
 subst uP;have e':=(f.3.7 _ _ J).1;haveI Z:=W.1 i o it;have nt:=λaj n y=>Z.2 aj n (dH (e'.symm.trans y));have bI:∀{b8:Addr->Option Obj} {a o x},(∀a o,j a=some o->b8 a=some o)->j a=some o->dF b8 h x a=some o:=λk y=>(dA (mr y G.6)).trans (k _ _ y);by_cases oP:i<ws.length
 .have hu:=dZ oP;have z:=hP hu z;refine W.2 tl f.3 e' it z.1 hu λcv h' tk o2 r u_ e2 M=>?_;have S2:=f.3.swap (tk:=tk) J Z.2 Z.1 M.extBut e2;have t:=f.3.tl (λb o n Y=>M.extBut b o n) nt;refine Q0 St (q:=⟨q.m0,dF mu h (some o2),I⟩) trivial ht hl S2 (r.b_ t) (T_ z.2) (λk=>W.4 e2 u_ k) λ{kN b8 l' s2} z k _ t3 S3=>?_;haveI k1:kN=q.m0:=k.1;subst k1;have B3:BS L Da (dF j h (some o2)) ⟨q.m0,b8,l'⟩ E A s2:=⟨cF f.1 λc n y=>cE c n (fF (k.2 _ _ (cQ G.1) ((dA (cQ G.2)).trans y.1)) ((y.2.b_ t).b_ t3)),λa x y=>by
   by_cases n:a=h
   .rw[n,fC]at y;injection y with y;subst y;exact B n (k.2 _ _ G.3 fC)
   .have y:=(dA n)▸y;exact k.2 _ _ (mr y G.4) ((dA n).trans (f.2 _ _ y)),S3⟩
  refine step hu z.1 (tl.trans (t.trans t3)) B3 λ{Q X O1 s4} z4 t4 B4=>⟨rfl,ws.length-(i+1),Nat.sub_lt_sub_left oP (k5 i),i+1,Q,X,O1,o2,rfl,oP,u_,B4.2 _ _ fC,z4,tl.trans (t.trans (t3.trans t4)),B4.1,λa x y=>B4.2 _ _ (bI (λY Y e=>e) y),B4.3.FF λx v y=>(z.2 x λm=>gM (hm x m) y).trans y⟩
 .have uU:=Nat.le_antisymm hi (Nat.not_lt.mp oP);have uU:=uU.symm;subst uU;refine W.5 tl f.3 e' it (hE z) λh' tk M=>?_;have d:=f.3.drop J Z.1;have t:=f.3.tl (λb o n Y=>M b o n) nt;exact bZ (b8:=dF mu h none) z (tl.trans t) ⟨cF f.1 λc n y=>cE c n (fF ((dA (cQ G.2)).trans y.1) (y.2.b_ t)),λa x y=>bI f.2 y,d.1.kf d.2 nt M⟩
theorem JV{us:List V}{f:V->V->V}:∀l:List V,(l.flatMap λu=>us.map (f u)).length=l.length*us.length
 |[]=>(Nat.zero_mul _).symm
 |a::l=>by simp only[List.flatMap_cons,cx,JV l,b9,lQ,Nat.succ_mul,Nat.add_comm]
theorem GX{ws:List V}(h:ws[i]? =some u):ws.take (i+1)=ws.take i++[u]:=by refine B List.take_add_one<|B h ?_;rfl
theorem Im{L:bQ g}(z:mL b L xs sc)(ko:gP b.kd L.av){R:Value->Addr->Result->Shared->Prop}(x:tX b L q h RR it s)
 (lp:∀{h0:Heap} {j o A ws k l Da i mu c} {R:Result->Shared->Prop},RR A ws k->Wk b h0 ws k j l->l 0 o->TL h0 c.heap->yT i Da j q.mu->i≠L.ae->mu j=some o->BS (z.wN i) Da q.mu ⟨q.m0,mu,pS xs q.bK⟩ [] A c->(∀{E A b8 c},jg A E Q->TL h0 c.heap->BS (z.wN i) Da q.mu ⟨q.m0,b8,pS xs q.bK⟩ E A c->R (.ok .next) c)->codeAny (model g.prog g.w) b.aa (.compLoop (.ListComp pe (⟨tg,iter,ifs,0⟩::aY) sc pos) 0 (.ref j) (.ref Da) (kM L sc i)) R c)
 (bZ:∀{D Cl p d mC c},Q (.ref D) p->TL h c.heap->aN L q p c->nU L q p Cl->c.heap.get? Cl=some d->LCg.NsObj d mC->R (.ref D) Cl (.ok .next) c):
 b.wp (newList []) (λM j9=>b.wp (newFunctionEnv sc L.av.globals (zK sc L.av) [] L.av.qual none .none (some L.av)) (λN GU=>codeAny (model g.prog g.w) b.aa (.compStart (.ListComp pe (⟨tg,iter,ifs,0⟩::aY) sc pos) 0 it M {N with scope:=relabel sc L.av}) (R M N.locals) GU) j9) s:=by
 cases x with
 |mk s j o A ws k l z0 tl S e r eC W=>
  refine wpAny_newObj_type (wpAny_newFunctionEnv z.2 (by intro y hy;cases hy) (λNV v C=>?_) z.1)
  haveI fo:=W.1 0 o r;haveI P:=S.oj eC fo.2 e;haveI lt:=Heap.lt_size e;haveI X:=hX s.heap (eT [] 0);haveI sz:(s.heap.push (eT [] 0)).objs.size=s.heap.objs.size+1:=Heap.size_push ..;haveI Z:=(P.jS (tk:=s.toks) X).oj P.size (iY.nt rfl (by decide)) (mJ _ rfl)
  have k2:=λb x q=>C.extBut b x (Nat.ne_of_lt (Heap.lt_size q)) (Heap.get?_push_of_some _ q);refine az (LCg.ns_obj v) λd y=>?_;have I:=(Z.jS (tk:=s.toks+([]:List (PySem.Str×Value)).length) k2).oj Z.size (λaj n e=>cF y.2 λes ep z=>by rw[e]at z;exact nomatch z.1) y.1
  have J:=S.eC (oa s.heap (B sz<|Nat.le_succ _:s.heap.objs.size<=(s.heap.push (eT [] 0)).objs.size));have G:yT (s.heap.push (eT [] 0)).objs.size s.heap.objs.size j q.mu:=⟨B sz ((Nat.ne_of_lt (k5 _)).symm),Nat.ne_of_lt lt,B sz (Nat.ne_of_lt (Nat.lt_succ_of_lt lt)),J.4,S.size.4,eC.4⟩;generalize(s.heap.push (eT [] 0)).objs.size=i at*;generalize s.heap.objs.size=Da at*;haveI S4:=I.BR (av:=kM L sc i) z.1 L.qg L.ud (λY Y e=>e) (z.wZ ko I.4 (λY Y e=>e) fC y.2);haveI t2:TL s.heap NV:=.of λb x e=>k2 b x (X b x e);haveI key:=lp z0 W r t2 G J.3 ((dA G.3).trans ((dA G.2).trans fC)) ⟨cE ([]) 0 (fF ((dA (cQ G.1)).trans fC) .nil),λa o e=>(dA (mr e G.4)).trans ((dA (mr e G.5)).trans ((dA (mr e G.6)).trans e)),S4⟩ λ{E A b8 c} y t f=>by
   haveI S5:aN L q A c:=f.3.BR L.kind L.qg L.ud f.2 (S.4.kf t λY Y e=>.inr e);haveI hC:∃d m,b8 i=some d/\LCg.NsObj d m:=by
    cases f.3.4 with
    |ja e=>exact absurd e J.3
    |lZ d m e n=>exact cE d m (fF e n)
   refine cF hC λd m w=>cF f.1 λaj n u=>?_;haveI d:=f.3.zT rfl rfl w.1 G.4;refine bZ (y Da (f.3.tu u.1)) (tl.trans t) (S5.zi (f.3.zT rfl rfl u.1 G.5) (f.3.7 _ _ u.1).1 (.list _ _ _ u.2) λY=>nofun) ⟨?_,d.2,d.3,d.4⟩ (f.3.7 _ _ w.1).1 w.2
   exact(bx G.1).trans d.1
  exact codeAny_compStart_list key (wpAny_mono (W.3 (I.7 _ _ ((dA G.3).trans ((dA G.2).trans fC))).1 r key) (λY Y x=>x) λY Y x=>x.elim)
def tV(b:bM g)(e:a7)(pe:Expr)(gens:List Comprehension)(sc:Scope)(pos:Pos):Prop:=
 ∀{L:bQ g} {q A Q s} {d:Option (Value->Sem Unit)} {R:Value->Shared->Prop} {h},gP b.kd L.av->aB b.C e q.bK A Q->aN L q A s->
  (∀{D Cl c f i a},Q (.ref D) c->TL s.heap a.heap->aN L q c a->nU L q c Cl->a.heap.get? Cl=some f->LCg.NsObj f i->compPost (model g.prog g.w) b.aa jj d R (.ref D) Cl (.ok .next) a)->
  b.wp (comprehension (.ListComp pe gens sc pos) sc L.av h (newList []) (firstAsync gens) (firstIter gens L.av) d) R s
theorem T9(x:fA aE xs v l R)(k:∀l,R l->R' l):fA aE xs v l R':=by
 cases aE with
 |true=>exact cF x λE b a=>cE E b (aS a.1 a.2.1 (k _ a.2.2))
 |false=>exact az x λb a=>⟨b,a.1,k _ a.2⟩
theorem WC(m:wK b.kd sc xs=true)(n:Tg aE xs r)(I:∀x∈xs,sc.names.lookup x.S=some .local)(hi:t9 b k es iter)(J:Al (ke (b.rG sc)) g ifs)(he:bz (b.rG sc) cN pe):tV b (.comp cN aE xs k es g) pe [⟨r,iter,ifs,0⟩] sc pos:=λ{L q A Q s Cp R ip} ko M S bZ=>by
 have z:=IQ m ko;refine wpAny_comprehension_free rfl (hi.1 _) z.6 z.1 (λp hp e=>(z.3 p hp e).1) (dD (hi.2 L q A s _ ko M S) λy=>dD y λy=>Im z ko y (λ{h0 ak o A ws j It Da Ca mu s' R} y W N tl G P X a bZ=>?_) bZ);refine Ea ajh G n (z.GO P) I OT W
  (λi E A=>E.length<=i/\oD (λv A R=>fA aE xs v q.bK λf=>mK b.C g f A R) (λv A R=>fA aE xs v q.bK λf=>Mp.aB b.C cN f A R) j (ws.drop i) E A λh A=>jg A h Q)
  (λi u l E A=>E.length<=i/\(∀R:aH->Prop,fA aE xs u q.bK R->R l)/\mK b.C g l A λc A=>(c=true->fA aE xs u q.bK λl=>Mp.aB b.C cN l A λw A=>oD (λv A R=>fA aE xs v q.bK λf=>mK b.C g f A R) (λv A R=>fA aE xs v q.bK λf=>Mp.aB b.C cN f A R) j (ws.drop (i+1)) (E++[w]) A λh A=>jg A h Q)/\(c=false->oD (λv A R=>fA aE xs v q.bK λf=>mK b.C g f A R) (λv A R=>fA aE xs v q.bK λf=>Mp.aB b.C cN f A R) j (ws.drop (i+1)) E A λh A=>jg A h Q))
  (λ{i u E A} hu y=>?_) (λ{E A} y=>?_) (λ{i u E A q' s o K} hu y t a k=>?_) (λ{E A mu s} y t a=>?_) N tl ⟨fw _,y.2⟩ rfl X a
 .have d:ws.drop i=u::ws.drop (i+1):=by
   obtain⟨Z,h2⟩:=fR.mp hu;exact aT h2 (List.drop_eq_getElem_cons Z)
  have y:=d▸y;exact⟨y.2.1,T8 (T9 (T7 y.2.2) λl z=>aS y.1 z.2 z.1)⟩
 .have y:=y.2;rw[List.drop_length]at y;exact y.1
 .haveI lt:=(fR.mp hu).1;haveI hb:=‹ws.length<=bf/\_›.1;refine dD (ai9 J z.ko y.2.2 a.3) λ{c s} x=>x.rec λaf w t1 S1=>?_;haveI a:=a.on t1 S1;cases c with
  |false=>
   exact B (bx gH) (k ⟨Nat.le_succ_of_le y.1,w.2 rfl⟩ t1 a)
  |true=>
   exact B (bA rfl) (a.Jo ((dA (cQ G.2)).trans G.5) he z.ko (y.2.1 _ (w.1 rfl)) (aV y.1 (aV (c9 lt) hb)) λw t2 a=>k ⟨by rw[cx];exact Nat.succ_le_succ y.1,w⟩ (t1.trans t2) a)
 .haveI y:=y.2;rw[List.drop_length]at y;exact bZ y.2.2 t a
theorem afG(c:x≠y)(l:aH)(u:V):(pS [x,y] l).set x u=(l.set x u).uu y:=funext λn=>by
 by_cases a:n=x
 .exact(bA a).trans (((bx λe=>c (a.symm.trans e)).trans (bA a)).symm)
 .refine(bx a).trans ?_;by_cases b:n=y
  .exact(bA (B b (cP _ (jo _)))).trans (bA b).symm
  .exact(bx λm=>(dW.mp m).elim a λm=>b (cL.mp m)).trans ((bx b).trans (bx a)).symm
theorem Vf(l:aH)(y:Nm)(v:V):(l.uu y).set y v=l.set y v:=funext λn=>by
 by_cases a:n=y
 .exact(bA a).trans (bA a).symm
 .exact((bx a).trans (bx a)).trans (bx a).symm
theorem WD{b:bM g}(E_:x≠y)(EY:wK b.kd sc [x,y]=true)(hx:sc.names.lookup x.S=some .local)(hy:sc.names.lookup y.S=some .local)(hi:t9 b .seq [a] iter)(hf:u9 pb=false)(hb:bz (b.rG sc) b' pb)(he:bz (b.rG sc) cN pe):tV b (.sI cN x a y b') pe [⟨.Name x.S np,iter,[],0⟩,⟨.Name y.S mp,pb,[],0⟩] sc pos:=λ{L q A Q s Cp R ip} ko hE S bZ=>by
 have z:=IQ EY ko;haveI rp:=hE;refine wpAny_comprehension_free rfl (hi.1 _) z.6 z.1 (λp hp e=>(z.3 p hp e).1) (dD (hi.2 L q A s _ ko rp S) λu=>dD u λu=>Im z ko u (λ{h0 ak o A ws dm It Da N mu s' R} w W i0 tl G nL mI d bZ=>?_) bZ);refine gn λC=>aU w λhw KJ=>az KJ λus Ai=>eI Ai λaeh NQ st Aj=>az Aj λf xo=>aU xo λadJ q1=>C ?_;clear KJ Ai Aj xo;try clear w
 haveI e1:=λu=>afG E_ q.bK u;haveI e2:∀u v,((q.bK.set x u).uu y).set y v=(q.bK.set x u).set y v:=λu v=>Vf _ _ _;haveI cC:∀{n:Nm} {u:V} {l:aH} {R:aH->Prop},R (l.set n u)->fA false [n] u l R:=λz=>⟨_,rfl,z⟩;haveI X:∀{n:Nm} {P:Nm->Prop},P n->∀m∈[n],P m:=λz m e=>cL.mp e▸z;refine Ea (q:=⟨q.m0,mu,pS [x,y] q.bK⟩) (ajj (JZ hf _)) G (.cC x np) (z.GO nL) (X hx) (X (OT x (bE ..))) W
  (λi E h=>h=A/\E=(ws.take i).flatMap λu=>us.map (f u)) (λi u l E h=>l=(q.bK.set x u).uu y/\h=A/\E=(ws.take i).flatMap λu=>us.map (f u))
  (λ{i u E h} hu w=>⟨w.1▸st,cC ⟨e1 u,w⟩⟩) (λw=>w.1▸st) (λ{i u E h I s o K} hu w t d k=>?_) (λ{E h mu s} w t d=>bZ (by haveI J:=w.2;rw[List.take_length]at J;exact J▸w.1▸q1) t d) i0 tl ⟨rfl,rfl⟩ rfl mI d
 refine gn λC=>br w λw1 Ef Zu=>?_;try clear w
 have Ef:=Ef.symm;subst Ef;subst Zu;refine C ?_;haveI hm:=jq hu;refine hb.then z.ko (B w1 (aeh u hm)) d.3 λ{v cv Z s2} w t2 S2 r=>gn λC=>?_
 obtain⟨rfl,rfl⟩:=w;refine C ?_;haveI d:=d.on t2 S2;refine dD (N9 .refl S2 r (R:=λh p0 dm=>h=Z/\p0=us/\dm=λY=>True) (aS rfl rfl rfl)) λ{cv s3} x=>?_;cases x with
 |mk s3 M o2 vS p0 akz ajR w t3 S3 g2 i2 eC W2=>
  refine gn λC=>aU w λEg K3=>?_;try clear w
  haveI Eg:=Eg.symm;subst Eg;refine aU K3 λEh ZS=>?_;try clear K3
  haveI Eh:=Eh.symm;subst Eh;haveI ZT:=ZS;subst ZT;refine C ?_;have d:=d.on t3 S3;haveI fo:=W2.1 0 o2 i2;haveI S4:=S3.oj eC fo.2 g2;have nI:∀{a o},I.mu a=some o->a≠M:=λe=>mr e eC.4;haveI hC:∃oC,I.mu N=some oC:=by
   cases d.3.4 with
   |ja e=>exact absurd e nL
   |lZ oC m e n=>exact⟨oC,e⟩
  have G2:yT N Da M (dF q.mu ak (some o)):=⟨G.1,cF d.1 λY Y e=>cQ (nI e.1),az hC λY e=>cQ (nI e),(dA (cQ G.3)).trans G.4,(dA (cQ G.2)).trans G.5,jT λo e=>gM eC.4 (d.2 _ _ e)⟩;have B4:BS (z.wN N) Da (dF q.mu ak (some o)) ⟨I.m0,dF I.mu M (some o2),I.bK⟩ _ Z s3:=⟨cF d.1 λc n e=>cE c n (fF ((dA (nI e.1)).trans e.1) e.2),λa o e=>(dA (nI (d.2 a o e))).trans (d.2 a o e),S4⟩;haveI key:codeAny (model g.prog g.w) b.aa (.compLoop (.ListComp pe [⟨.Name x.S np,iter,[],0⟩,⟨.Name y.S mp,pb,[],0⟩] sc pos) 1 (.ref M) (.ref Da) (kM L sc N)) (λr s=>match r with|.ok _=>K s|.error _=>False) s3:=
   Ea (q:=⟨I.m0,dF I.mu M (some o2),I.bK⟩) aji G2 (.cC y mp) (z.GO nL) (X hy) (X (by exact B w1 (bA rfl))) W2
    (λj E h=>h=Z/\E=((ws.take i).flatMap λu=>us.map (f u))++(us.take j).map (f u)) (λj v l E h=>l=(q.bK.set x u).set y v/\h=Z/\E=((ws.take i).flatMap λu=>us.map (f u))++(us.take j).map (f u))
    (λ{j v E h} hv w=>⟨trivial,cC ⟨w1▸e2 u v,w⟩⟩) (λY=>trivial) (λ{j v E h q2 s o K} hv w t d k=>by
      refine gn λC=>br w λv1 uJ Ej=>?_;try clear w
      have uJ:=uJ.symm;subst uJ;subst Ej;refine C<|d.Jo ((dA (cQ G2.2)).trans G2.5) he z.ko (B v1 (adJ u hm v (jq hv))) ?_ λ{v4 yQ O1 s4} w t2 d=>k ⟨w.1,by rw[GX hv,iJ,<-iX];exact aP (λx=>_++[x]) w.2⟩ t2 d
      simp only[cx,JV,b9,k9,k9];exact aV (Nat.add_le_add (Nat.mul_le_mul (aV (Nat.min_le_right i ws.length) hw) NQ) (aV (Nat.min_le_right j _) NQ)) (by decide+kernel)) (λ{E h mu s} w t d=>k ⟨w.1,by simp only[GX hu,List.flatMap_append,List.flatMap_singleton];haveI J:=w.2;rw[List.take_length]at J;exact J⟩ (t2.trans (t3.trans t)) d) i2 .refl ⟨rfl,(fQ _).symm⟩ rfl fC B4
  exact aiR key (W2.3 g2 i2 key)
theorem Gg(k:tV b e pe gens sc pos):bz b e (.ListComp pe gens sc pos):=λL q A Q s ko g S=>by
 simp only[eval_ListComp];exact k ko g S λ{D Cl i j h l} z t S eC a d=>⟨h,d.ns a,λm f=>
  haveI nt:=λc n e=>cF d λes p z=>by cases dH (a.symm.trans e);exact nomatch z.1
  .at (t.trans (S.tl (λb o n Y=>f.extBut b o n) nt)) z (S.kf eC nt f.extBut) (.ref D)⟩
theorem R8(u:lc b.kd x.S=true)(k:tV b e pe gens sc pos):je b (.bP x e) (.Assign [.Name x.S np] (.ListComp pe gens sc pos) j):=λL q A Q s fn w S=>by
 haveI h:∃i,swapsWith (.ListComp pe gens sc pos) (some (.Name x.S np)) j.line L.av=pure i:=⟨_,rfl⟩;refine az h λi h=>?_;cases i with
 |false=>exact wpAny_Assign_Name ((Gg k).then fn.1 w S λz t S r=>B9 fn u S r λk fn J S=>C_ (t.trans J) k z fn S) h
 |true=>
  refine B (exec_Assign_Name_used _ _ _ _ h)<|cD (wpAny_standAt (cD ?_));refine cD (dD (k fn.1 w S λ{D Cl W C M X} z t S eC N l=>?_) λz=>dX (dX z));have nt:∀aj n,C≠fV aj n:=λc n e=>cF l λes P z=>by rw[e]at z;exact nomatch z.1
  have m:∀c,C.data≠.cell c:=λc e=>cF l λes P z=>nomatch z.1.symm.trans e
  refine wpAny_assign_Name (B9 (fn.dF λo e=>gM eC.4 e) u (S.oj eC nt N) (.ref D) λ{Z b8 s2} E p R g=>?_);have hm:=E _ _ fC m;have d:=g.Jb hm (.ja p.2 λy v e=>(g.ja p.2 y v e).kf .refl λc o cv e d=>(dA λn=>by replace e:=n▸e;cases dH (hm.symm.trans e);exact m _ d).trans e)
  refine⟨M,l.ns (g.7 _ _ hm).1,λh' G=>?_⟩;haveI I:=λc n e=>nt c n (dH ((g.7 _ _ hm).1.symm.trans e));exact C_ (t.trans (R.trans (g.tl (λb o n Y=>G.extBut b o n) I))) (λa o e f=>(dA (mr e eC.4)).trans (E a o ((dA (mr e eC.4)).trans e) f)) z (p.sub λc o v e d=>(cE o v (fF ((dA λn=>by replace e:=n▸e;cases dH (hm.symm.trans e);exact m _ d).trans e) d))) (d.1.kf d.2 I G.extBut)
section
noncomputable def Ok(N:Nat)(lt:Nat->Nat->Bool):KasT b->(b->Prop)->Prop
 |.ret a,Q=>Q a
 |.ask i j k,Q=>i<N/\j<N/\Ok N lt (k (lt i j)) Q
theorem Ok.bind{Q:b->Prop}(k:∀a,Q a->Ok N lt (f a) R):∀{t:KasT b},Ok N lt t Q->Ok N lt (t.bind f) R
 |.ret _,h=>k _ h
 |.ask i j _,h=>aS h.1 h.2.1 (Ok.bind k h.2.2)
theorem Ok.wp{G:d->Shared->Prop}
 (b:∀i j (C:Bool->Shared->Prop),i<N->j<N->C (lt i j) s->dw i j C s) (c:∀a,Q a->G a s):∀{t:KasT d},Ok N lt t Q->t.kasWp dw G s
 |.ret a,x=>c a x
 |.ask i j k,x=>b i j _ x.1 x.2.1 (Ok.wp b c x.2.2)
def iK(N:Nat)(p:Array Nat):Prop:=p.Perm (List.toArray (List.range N))
section
variable{N:Nat}{lt:Nat->Nat->Bool}{jY:Type}{le:jY->jY->Prop}{k:Nat->jY}{p:Array Nat}
theorem iK.list(h:iK N p):p.toList.Perm (List.range N):=Array.perm_iff_toList_perm.mp h
theorem iK.size(h:iK N p):p.size=N:=h.size_eq.trans (mH ..)
theorem iK.inr(h:iK N p)(a:0<N)(i:Nat):p.getD i 0<N:=by
 by_cases e:i<p.size
 .exact List.mem_range.mp (h.list.mem_iff.mp (by rw[show p.getD i 0=p[i]from dif_pos e];exact Array.getElem_mem_toList e))
 .rw[show p.getD i 0=0 from dif_neg e];exact a
theorem iK.bW(h:iK N p)(i j:Nat):iK N (kas_rev p i j):=(mirror_perm ..).trans h
theorem iK.Uj(h:iK N p)(i j:Nat):iK N (bubble p i j):=(bubble_perm ..).trans h
theorem rm(p:Array Nat)(i:Nat):p.getD i 0=(p[i]?).getD 0:=Array.getD_eq_getD_getElem?
def jN(le:a->a->Prop)(s:Nat->a)(n:Nat):Prop:=∀i,i+1<n->le (s i) (s (i+1))
theorem jN.tM(a:jN le s n)(e:le (s (n-1)) (s n)):jN le s (n+1):=λi hi=>
 (Nat.lt_or_eq_of_le (Nat.le_of_lt_succ hi)).elim (a i) λq=>by subst q;exact e
noncomputable abbrev du(k:Nat->jY)(p:Array Nat)(i:Nat):jY:=k (p.getD i 0)
theorem CQ(ha:a<=i)(b:i+t+1<=p.size):du k (kas_rev p a (i+t+1)) i=du k p (a+t):=by
 unfold du kas_rev;rw[rm,rm,getElem?_mirror_all b,bA ⟨ha,Nat.lt_succ_of_le (jK _ _)⟩];exact aP (λx=>k ((p[x]?).getD 0)) (by rw[Nat.add_left_comm,Nat.add_sub_cancel_left]:a+(i+t)-i=a+t)
theorem RK(b:j<=p.size)(h:¬(a<=i/\i<j)):du k (kas_rev p a j) i=du k p i:=by
 unfold du kas_rev;rw[rm,rm,getElem?_mirror_all b,bx h]
theorem Ra(h:i<j):∃t,j=i+t+1:=⟨j-(i+1),by rw[Nat.add_right_comm];exact(Nat.add_sub_cancel' h).symm⟩
theorem CS(b:j<=p.size)(h:∀i,a<=i->i<j->du k p i=c):du k (kas_rev p a j)=du k p:=funext λi=>by
 by_cases q:a<=i/\i<j
 .refine az (Ra q.2) λt e=>?_;subst e;exact B (CQ q.1 b) ((h _ (jK _ _) (Nat.lt_succ_of_le (Nat.add_le_add_right q.1 _))).trans (h i q.1 q.2).symm)
 .exact RK b q
def CJ(le:d->d->Prop)(lt:Nat->Nat->Bool)(k:Nat->d):Prop:=Q4
 (∀{a b c},le a b->le b c->le a c)
 (∀{a b},le a b->le b a->a=b)
 (∀{i j},lt i j=true->le (k i) (k j))
 (∀{i j},lt i j=false->le (k j) (k i))
variable(bN:CJ le lt k)
include bN
theorem CJ.refl(i:Nat):le (k i) (k i):=by
 cases e:lt i i with
 |true=>exact bN.3 e
 |false=>exact bN.4 e
theorem jN.all(a:jN le (du k p) n):∀{j:Nat},i<=j->j<n->le (du k p i) (du k p j)
 |0,h,_=>by cases Nat.le_zero.mp h;exact bN.refl _
 |j+1,h,l=>(Nat.lt_or_eq_of_le h).elim (λh=>bN.1 (a.all (Nat.le_of_lt_succ h) (Nat.lt_of_succ_lt l)) (a j l)) λe=>aT e (bN.refl _)
theorem C'(hp:iK N p):∀(f n:Nat),1<=n->n+f=N->jN le (du k p) n->Ok N lt (kas_asc p f n) λm=>1<=m/\m<=N/\jN le (du k p) m/\(m≠N->le (du k p m) (du k p (m-1)))
 |0,n,b,a,c=>cg b (Nat.le_of_eq a) c λh=>absurd a h
 |f+1,n,b,a,c=>by
  haveI d:0<N:=aT a (Nat.succ_pos _);refine aS (hp.inr d n) (hp.inr d (n-1)) ?_;cases e:lt (p.getD n 0) (p.getD (n-1) 0)with
  |true=>exact cg b (aT a (jK _ _)) c λY=>bN.3 e
  |false=>exact C' hp f (n+1) (Nat.le_succ_of_le b) ((Nat.succ_add n f).trans a) (c.tM (bN.4 e))
def Dn(N:Nat)(le:c->c->Prop)(k:Nat->c)(p:Array Nat)(n q:Nat):Prop:=Q5
 (iK N p)
 (jN (λa b=>le b a) (du k p) n)
 (1<=n)
 (n<=N)
 (∀i,n-(q+1)<=i->i<n->du k p i=du k p (n-1))
omit bN in
theorem Dn.sz(d:Dn N le k p n q):n<=p.size:=d.1.size.symm▸d.4
omit bN in
theorem Dn.next(d:Dn N le k p n q)(h:n+1<=N)(e:le (du k p n) (du k p (n-1))):Dn N le k p (n+1) 0:=
 ⟨d.1,d.2.tM e,Nat.le_succ_of_le d.3,h,λi a b=>aP (du k p) (Nat.le_antisymm (Nat.le_of_lt_succ b) a)⟩
theorem zO:∀(f:Nat) (p:Array Nat) (n q:Nat),n+f=N->Dn N le k p n q->Ok N lt (kas_desc f p n q) λr=>Dn N le k r.1 r.2.1 r.2.2
 |0,p,n,q,h,d=>d
 |f+1,p,n,q,h,d=>by
  have c:n+1<=N:=aT h (Nat.add_le_add_left (Nat.succ_pos f) n);haveI g:=j_ (Nat.succ_pos n) c;have m:=(Nat.succ_add n f).trans h;refine aS (d.1.inr g n) (d.1.inr g (n-1)) ?_;cases e:lt (p.getD n 0) (p.getD (n-1) 0)with
  |true=>
   show Ok N lt (if q>0 then _ else _) _
   have e:=bN.3 e;by_cases o:q>0
   .rw[bA o];have s:=CS d.sz d.5;refine zO f _ (n+1) 0 m (Dn.next (q:=0) ⟨d.1.bW _ _,?_,d.3,d.4,λi a b=>?_⟩ c ?_)
    .exact B s d.2
    .exact B s (aP (du k p) (Nat.le_antisymm (Nat.le_sub_one_of_lt b) a))
    .exact B s e
   .exact B (bx o) (zO f _ (n+1) 0 m (d.next c e))
  |false=>
   haveI e:=bN.4 e;refine aS (d.1.inr g _) (d.1.inr g _) ?_;cases j:lt (p.getD (n-1) 0) (p.getD n 0)with
   |true=>exact d
   |false=>
    have j:=bN.4 j;haveI eq:=bN.2 j e;haveI l:=d.next c j;exact zO f _ (n+1) (q+1) m ⟨l.1,l.2,l.3,l.4,λi a b=>(Nat.lt_or_eq_of_le (Nat.le_of_lt_succ b)).elim (λb=>(d.5 i (Nat.succ_sub_succ n (q+1)▸a) b).trans eq.symm) λb=>aP (du k p) b⟩
def CO(N:Nat)(le:a->a->Prop)(k:Nat->a)(r:Nat×Array Nat):Prop:=iK N r.2/\1<=r.1/\r.1<=N/\jN le (du k r.2) r.1
theorem QZ(d:Dn N le k p n q):Ok N lt (kas_tail3 n N p) (CO N le k):=
 Ok.bind (λm hm=>by exact cg (d.1.bW _ _) hm.1 hm.2.1 hm.2.2.1) (C' bN (d.1.bW 0 n) (N-n) n d.3 (Nat.add_sub_cancel' d.4) λi hi=>az (Ra hi) λt e=>by
  have sz:=d.sz;haveI a:n=i+(t+1)+1:=e.trans (aP Nat.succ (Nat.add_right_comm i 1 t));haveI b:du k (kas_rev p 0 n) i=du k p (0+(t+1)):=by rw[a]at sz⊢;exact CQ (fw _) sz
  haveI c:du k (kas_rev p 0 n) (i+1)=du k p (0+t):=by rw[e]at sz⊢;exact CQ (fw _) sz
  simp only[b,c,Nat.zero_add,Nat.zero_add];exact d.2 t (B e (Nat.lt_succ_of_le (Nat.add_le_add_right (Nat.succ_pos i) t|>λh=>by rw[Nat.add_comm];exact h))))
theorem I3(d:Dn N le k p (n+1) 0):Ok N lt (kas_descPart n N p) (CO N le k):=
 Ok.bind (λr x=>by
  split
  .haveI s:=CS x.sz x.5;exact QZ bN ⟨x.1.bW _ _,B s x.2,x.3,x.4,λi a b=>aP (du k _) (Nat.le_antisymm (Nat.le_sub_one_of_lt b) a)⟩
  .exact QZ bN x) (zO bN (N-(n+1)) p (n+1) 0 (Nat.add_sub_cancel' d.4) d)
theorem U7(hp:iK N p)(c:1<=N):Ok N lt (kas_count N p) (CO N le k):=
 Ok.bind (λn x=>by
  by_cases q:(n==N)=true
  .exact B (bA q) ((cg hp x.1 x.2.1 x.2.2.1))
  .rw[bx q];have d:=λe=>q (beq_iff_eq.mpr e);haveI h:=Nat.lt_of_le_of_ne x.2.1 d;haveI hs:n<=p.size:=aT hp.size.symm x.2.1;have cC:∀{p:Array Nat} i,n+1-(0+1)<=i->i<n+1->du k p i=du k p (n+1-1):=λi a b=>aP (du k _) (Nat.le_antisymm (Nat.le_of_lt_succ b) a);by_cases f:n>1
   .rw[bA f];refine aS (hp.inr c 0) (hp.inr c _) ?_;cases e:lt (p.getD 0 0) (p.getD (n-1) 0)with
    |true=>exact cg hp x.1 x.2.1 x.2.2.1
    |false=>
     haveI g:=Nat.sub_lt x.1 Nat.one_pos;have all:∀i,0<=i->i<n->du k p i=du k p 0:=λi Y hi=>bN.2 (bN.1 (x.2.2.1.all bN (Nat.le_sub_one_of_lt hi) g) (bN.4 e)) (x.2.2.1.all bN (fw i) hi);haveI s:=CS hs all;refine I3 bN ⟨hp.bW 0 n,jN.tM (λi hi=>?_) ?_,Nat.le_succ_of_le x.1,h,cC⟩
     .exact B s<|B (all i (fw _) (Nat.lt_of_succ_lt hi))<|B (all (i+1) (fw _) hi)<|bN.refl _
     .exact B s (x.2.2.2 d)
   .rw[bx f];haveI g:=Nat.le_antisymm (Nat.not_lt.mp f) x.1;refine I3 bN ⟨hp,jN.tM (λi hi=>absurd hi (B g (Nat.not_lt.mpr (Nat.succ_le_succ (fw i))))) (x.2.2.2 d),Nat.le_succ_of_le x.1,h,cC⟩)
 (C' bN hp (N-1) 1 (dR _) (Nat.add_sub_cancel' c) λi hi=>absurd hi (Nat.not_lt.mpr (Nat.succ_le_succ (fw i))))
theorem Gq(hp:iK N p)(b:0<N):∀(f l r:Nat),l<=r->r<=j->r<=l+f->(∀i,i+1=l->le (du k p i) (du k p j))->(r<j->le (du k p j) (du k p r))->
 Ok N lt (kas_place p j f l r) λm=>m<=j/\(∀i,i+1=m->le (du k p i) (du k p j))/\(m<j->le (du k p j) (du k p m))
 |0,l,r,c,a,d,g,hr=>by cases Nat.le_antisymm c d;exact aS a g hr
 |f+1,l,r,c,a,d,g,hr=>by
  unfold kas_place;by_cases q:l>=r
  .rw[bA q];cases Nat.le_antisymm c q;exact aS a g hr
  .rw[bx q];refine aS (hp.inr b _) (hp.inr b _) ?_;have n:=(Nat.le_div_iff_mul_le Nat.two_pos).mpr (by rw[Nat.mul_two];exact Nat.add_le_add_left c l)
   have h:=(Nat.div_lt_iff_lt_mul Nat.two_pos).mpr (by rw[Nat.mul_two];exact Nat.add_lt_add_right (Nat.not_le.mp q) r)
   generalize(l+r)/2=m at*;cases e:lt (p.getD j 0) (p.getD m 0)with
   |true=>exact Gq hp b f l m n (aV (c9 h) a) (Nat.le_of_lt_succ (j_ h d)) g λY=>bN.3 e
   |false=>exact Gq hp b f (m+1) r h a (aV d (by simp only[Nat.succ_add];exact Nat.succ_le_succ (Nat.add_le_add_right n f))) (λi hi=>by injection hi with hi;subst hi;exact bN.4 e) hr
omit bN in
theorem Uk(g:j<p.size)(hm:m<=j)(a:jN le (du k p) j)(h:∀i,i+1=m->le (du k p i) (du k p j))(hr:m<j->le (du k p j) (du k p m)):jN le (du k (bubble p j (j-m))) (j+1):=by
 have e:∀i,du k (bubble p j (j-m)) i=if i=m then du k p j else if m<i/\i<=j then du k p (i-1)else du k p i:=λi=>by
  unfold du;rw[rm,getElem?_bubble g (j-m) (Nat.sub_le j m) i,Nat.sub_sub_self hm];by_cases b:i=m
  .rw[bA b,bA b,rm]
  .rw[bx b,bx b];by_cases f:m<i/\i<=j
   .rw[bA f,bA f,rm]
   .rw[bx f,bx f,rm]
 intro i hi;have hi:=Nat.le_of_lt_succ hi;rw[e,e];rcases Nat.lt_trichotomy i m with c|c|c
 .rw[bx (Nat.ne_of_lt c),bx λy=>Nat.lt_asymm c y.1];by_cases d:i+1=m
  .rw[bA d];exact h i d
  .rw[bx d,bx λy=>Nat.not_lt.mpr c y.1];exact a i (j_ (Nat.lt_of_le_of_ne c d) hm)
 .rw[bA c,bx (c▸(Nat.succ_ne_self i)),bA ⟨c▸k5 i,hi⟩,c];exact hr (c▸hi)
 .rw[bx (Nat.ne_of_gt c),bA ⟨c,Nat.le_of_succ_le hi⟩,bx (Nat.ne_of_gt (Nat.lt_succ_of_lt c)),bA ⟨Nat.lt_succ_of_lt c,hi⟩];cases i with
  |zero=>exact absurd c (Nat.not_lt_zero _)
  |succ i=>exact a i hi
theorem Ik:∀(f:Nat) (p:Array Nat) (j:Nat),iK N p->j+f=N->jN le (du k p) j->Ok N lt (kas_bin f p j) λp'=>iK N p'/\jN le (du k p') N
 |0,p,j,hp,h,a=>⟨hp,h▸a⟩
 |f+1,p,j,hp,h,a=>
  haveI b:=aT h (Nat.lt_add_of_pos_right (Nat.succ_pos f))
  Ok.bind (λm hm=>Ik f _ (j+1) (hp.Uj _ _) ((Nat.succ_add j f).trans h) (Uk (aT hp.size.symm b) hm.1 a hm.2.1 hm.2.2)) (Gq bN hp (df (fw j) b) j 0 j (fw _) (dR _) (Nat.le_of_eq (Nat.zero_add j).symm) (λi h=>nomatch h) λh=>absurd h (Nat.lt_irrefl _))
theorem aiq(a:1<=N):Ok N lt (kas_sort N) λp=>iK N p/\jN le (du k p) N:=
 Ok.bind (λr x=>by
  haveI hm:=Nat.max_eq_left x.2.1
  split
  .exact B hm (Ik bN _ _ _ x.1 (Nat.add_sub_cancel' x.2.2.1) x.2.2.2)
  .exact⟨x.1,Nat.le_antisymm x.2.2.1 (Nat.not_lt.mp ‹_›)▸x.2.2.2⟩) (U7 bN (Array.Perm.refl _) a)
end
end
noncomputable def V.pr:V->Int×Int
 |.int i=>(i,0)
 |.aE [a,b]=>(a.num,b.num)
 |_=>(0,0)
noncomputable def V.lt(x y:V):Bool:=decide (x.pr.1<y.pr.1)||(decide (x.pr.1=y.pr.1)&&decide (x.pr.2<y.pr.2))
def vm(a b:Int×Int):Prop:=a.1<b.1\/a.1=b.1/\a.2<=b.2
inductive Kk:V->Nat->Prop
 |int (i:Int):Kk (.int i) 1
 |ii (i j:Int):Kk (.aE [.int i,.int j]) 2
 |ib (i:Int) (b:Bool):Kk (.aE [.int i,.bool b]) 3
theorem kk(h:V.kind x=n)(d:n≠0):Kk x n:=by
 subst h;cases x with
 |int i=>exact .int i
 |aE E=>
  cases E with
  |nil=>exact absurd rfl d
  |cons a E=>cases a with
   |int i=>cases E with
    |nil=>exact absurd rfl d
    |cons c E=>cases E with
     |nil=>cases c with
      |int j=>exact .ii i j
      |bool b=>exact .ib i b
      |_=>exact absurd rfl d
     |cons=>cases c<;>exact absurd rfl d
   |_=>exact absurd rfl d
 |_=>exact absurd rfl d
theorem PC(K:Nat->V):CJ vm (λi j=>V.lt (K i) (K j)) λi=>(K i).pr:=⟨
 λx y=>x.elim (λx=>y.elim (λy=>.inl (Int.lt_trans x y)) λy=>.inl (y.1▸x)) λx=>y.elim (λy=>.inl (x.1▸y)) λy=>.inr ⟨x.1.trans y.1,fp x.2 y.2⟩,
 λ{a b} x y=>x.elim (λx=>y.elim (λy=>absurd y (Int.lt_asymm x)) λy=>absurd (y.1▸x) (Int.lt_irrefl _)) λx=>y.elim (λy=>absurd (x.1▸y) (Int.lt_irrefl _)) λy=>Prod.ext x.1 (Int.le_antisymm x.2 y.2),
 λe=>((Bool.or_eq_true _ _).mp e).elim (λe=>.inl (dQ e)) λe=>.inr ⟨dQ (gK e).1,Int.le_of_lt (dQ (gK e).2)⟩,
 λ{i j} e=>by
 haveI d:=Bool.or_eq_false_iff.mp e;rcases Int.lt_trichotomy (K i).pr.1 (K j).pr.1 with c|c|c
 .exact absurd c (gZ d.1)
 .haveI f:=d.2;simp only[cO c,Bool.true_and]at f;exact .inr ⟨c.symm,Int.not_lt.mp (gZ f)⟩
 .exact .inl c⟩
theorem aeW(b:Kk x n)(a:Kk y n)(h:vm x.pr y.pr):V.rI x y:=by
 cases b with
 |int i=>cases a with
  |int j=>exact h.elim Int.le_of_lt λh=>Int.le_of_eq h.1
 |ii=>cases a;exact h
 |ib=>cases a;exact h
theorem ahf{d:c}(a:l.length=N)(hp:iK N p):(p.toList.map λi=>l.getD i d).Perm l:=by
 haveI e:(List.range N).map (λi=>l.getD i d)=l:=List.ext_getElem (by simp only[b9,mH,a]) λi f b=>by
  rw[List.getElem_map,List.getElem_range,List.getD_eq_getElem?_getD,dZ b];rfl
 exact(hp.list.map _).trans (.of_eq e)
theorem J_(f:a->b)(l:List a)(i:Nat)(d:a):(l.map f).getD i (f d)=f (l.getD i d):=by
 simp only[List.getD_eq_getElem?_getD,List.getD_eq_getElem?_getD,List.getElem?_map];cases l[i]? <;>rfl
theorem BU(b:Bool)(l:List a):(katRev b l).Perm l:=by
 cases b with
 |false=>exact .refl _
 |true=>exact List.reverse_perm l
theorem Gy(b:Bool)(f:a->c)(l:List a):katRev b (l.map f)=(katRev b l).map f:=by
 cases b with
 |false=>rfl
 |true=>exact List.map_reverse.symm
theorem ahz(b:Bool)(l:List a):katRev b (katRev b l)=l:=by
 cases b with
 |false=>rfl
 |true=>exact List.reverse_reverse l
theorem air{n N:Nat}(g:∀x∈a,V.kind x=n)(h:n≠0)(b:a.length=N)(c:E.length=N)(hp:iK N p)
 (hu:jN vm (du (λi=>((katRev bW a).getD i V.none).pr) p) N):vH bW a E (katRev bW (p.toList.map λi=>(katRev bW E).getD i .none)):=by
 have k:(katRev bW (a.zip E)).length=N:=by simp only[kat_len,List.length_zip,b,c,Nat.min_self]
 have e:∀i,((katRev bW (a.zip E)).getD i (.none,.none)).1=(katRev bW a).getD i V.none:=λi=>by
  rw[<-J_ Prod.fst,<-Gy,List.map_fst_zip (Nat.le_of_eq (b.trans c.symm))]
 have l:∀i,((katRev bW (a.zip E)).getD i (.none,.none)).2=(katRev bW E).getD i V.none:=λi=>by
  rw[<-J_ Prod.snd,<-Gy,List.map_snd_zip (Nat.le_of_eq (c.trans b.symm))]
 refine⟨katRev bW (p.toList.map λi=>(katRev bW (a.zip E)).getD i (.none,.none)),(BU bW _).trans ((ahf k hp).trans (BU bW _)),?_,?_⟩
 .rw[<-Gy,fk];exact aP (katRev bW) (k8 λi Y=>(l i).symm)
 .have f:(p.toList.map λi=>(katRev bW (a.zip E)).getD i (.none,.none)).Pairwise λp q:V×V=>V.rI p.1 q.1:=by
   rw[List.pairwise_map,List.pairwise_iff_getElem];intro i j hi d m;haveI sz:=hp.size;haveI at':∀i hi,p.toList[i]=p.getD i 0:=λi hi=>(show p.getD i 0=p[i]from dif_pos (show i<p.size from hi)).symm;haveI kd:∀i (hi:i<p.toList.length),Kk ((katRev bW a).getD (p.getD i 0) V.none) n:=λi hi=>by
    haveI lt:p.getD i 0< (katRev bW a).length:=by simp only[kat_len,b];exact hp.inr (aT sz (df (fw _) hi)) i
    refine B List.getD_eq_getElem?_getD ?_;refine B (dZ lt) ?_;exact kk (g _ ((BU bW _).mem_iff.mp (List.getElem_mem lt))) h
   simp only[e,e,at' i hi,at' j d];exact aeW (kd i hi) (kd j d) (hu.all (PC λi=>(katRev bW a).getD i V.none) (c9 m) (aT sz d))
  cases bW with
  |false=>exact f
  |true=>exact List.pairwise_reverse.mpr f
theorem ais(c:b.length=E.length)(d:E.length<2):vH bW b E E:=by
 refine⟨b.zip E,.refl _,(List.map_snd_zip (Nat.le_of_eq c.symm)).symm,?_⟩;have z:(b.zip E).length<=1:=by rw[List.length_zip,c,Nat.min_self];exact Nat.le_of_lt_succ d
 generalize b.zip E=l at z;cases l with
 |nil=>exact .nil
 |cons a l=>rw[List.eq_nil_of_length_eq_zero (Nat.le_zero.mp (Nat.le_of_succ_le_succ z))];exact List.pairwise_singleton _ _
theorem aeX{i k:Int}(h:i=k):(decide (i<k)||(decide (i=k)&&b))=b:=by rw[dp (h▸Int.lt_irrefl i),cO h,Bool.false_or,Bool.true_and]
theorem aeY{i k:Int}(h:i≠k):(decide (i<k)||(decide (i=k)&&b))=decide (i<k):=by simp only[dp h,Bool.false_and,Bool.or_false]
theorem VM{g:Gd}{aB:Value->Shared->Prop}(h:Q (a==b) s):wpAny (model g.prog g.w) aa (eqBool (.bool a) (.bool b)) Q aB s:=SeqAt.EqAt.bool_bool a b g.prog g.w aB Q h
theorem Ib(b:Bool):b2i b=V.num (.bool b):=by cases b<;>rfl
def pB(g:Gd)(aa:Around)(s:Shared)(y z:V)(a b:Value):Prop:=∀{Q:Bool->Shared->Prop},Q (decide (y.num<z.num)) s->KatLex g.prog g.w aa true false Q [(a,b)] 1 s
theorem aik:pB g aa s (.int i) (.int j) (.int i t) (.int j u):=λ{Q} q=>kat_cons (wpAny_eqBool_int (kat_go (λa=>kat_yes (kat_nil (by rwa[show decide ((V.int i).num< (V.int j).num)=false from dp (B (beq_iff_eq.mp a) (Int.lt_irrefl _))]at q))) λa=>kat_no (kat_one _ _ (lt_int q))))
theorem aij:pB g aa s (.bool i) (.bool j) (.bool i) (.bool j):=λ{Q} q=>kat_cons (VM (kat_go (λa=>kat_yes (kat_nil (by rwa[show decide ((V.bool i).num< (V.bool j).num)=false from dp (B (beq_iff_eq.mp a) (Int.lt_irrefl _))]at q))) λa=>kat_no (kat_one _ _ (lt_bool (by simp only[Ib,Ib];exact q)))))
theorem ajk(d:s.heap.get? a=some (fV [.int i t,e] n))(f:s.heap.get? b=some (fV [.int k u,h] m))(sn:pB g aa s y z e h)(q:Q (V.lt (.aE [.int i,y]) (.aE [.int k,z])) s):wpAny (model g.prog g.w) aa (keyLt' (tuples' true) (.ref a) (.ref b)) Q jj s:=by
 haveI q:Q (decide (i<k)||(decide (i=k)&&decide (y.num<z.num))) s:=q;refine kat_lt d rfl f rfl (kat_cons (wpAny_eqBool_int (kat_go (λc=>kat_yes (sn ?_)) λc=>kat_no (oneLt_int ?_))))
 .rwa[aeX (beq_iff_eq.mp c)]at q
 .rwa[aeY (beq_eq_false_iff_ne.mp c)]at q
@[elab_as_elim]theorem bX.i2 {P:List Value->Prop} (r:bX g h [.int i,y] aj) (k:∀t c,bH g h y c->P [.int i t,c]):P aj:=r.ie λc cs a r=>bH.iD rfl a λt=>bX.ie r λd ds e r=>bX.jz r (k t d e)
theorem aii(r:bH g h (.int i) c)(u:bH g h (.int j) d):pB g aa s (.int i) (.int j) c d:=bH.iD (P:=λc=>pB g aa s (.int i) (.int j) c d) rfl r λt=>bH.iD (P:=λd=>pB g aa s (.int i) (.int j) (.int i t) d) rfl u λv=>aik
theorem aih(r:bH g h (.bool i) c)(u:bH g h (.bool j) d):pB g aa s (.bool i) (.bool j) c d:=bH.Dv (P:=λc=>pB g aa s (.bool i) (.bool j) c d) rfl r (bH.Dv (P:=λd=>pB g aa s (.bool i) (.bool j) (.bool i) d) rfl u aij)
theorem Rd(h:bH g s.heap (.aE [.int i,y]) L)(j:bH g s.heap (.aE [.int k,z]) l)(sn:∀{c d},bH g s.heap y c->bH g s.heap z d->pB g aa s y z c d)(q:Q (V.lt (.aE [.int i,y]) (.aE [.int k,z])) s):wpAny (model g.prog g.w) aa (keyLt' (tuples' true) L l) Q jj s:=
 h.m6 λa aj n e cr Y=>j.m6 λb r m f o Y=>bX.i2 cr (λt c rc e=>bX.i2 o (λu d p f=>ajk e f (sn rc p) q) f) e
theorem aeO(d:Kk x n)(a:Kk y n)(b:bH g s.heap x L)(c:bH g s.heap y e)(q:Q (V.lt x y) s):wpAny (model g.prog g.w) aa (keyLt' (if n=1 then oneType' else tuples' true) L e) Q jj s:=by
 cases d with
 |int i=>cases a with
  |int j=>
   refine b.iD rfl λt=>c.iD rfl λu=>kat_lt_int ?_;have q:Q (decide (i<j)||(decide (i=j)&&false)) s:=q;rwa[Bool.and_false,Bool.or_false]at q
 |ii=>cases a;exact Rd b c aii q
 |ib=>cases a;exact Rd b c aih q
theorem aeR:∀{e:List Value},bX g h b e->(∀x∈b,Kk x 1)->∃d,IntsAre e d:=by
 induction b with
 |nil=>exactλr Y=>r.jz ⟨[],.nil⟩
 |cons k b ih=>
  refineλr f=>r.ie λc cs a r=>az (ih r λx m=>f x (cP _ m)) λd z=>?_;cases f k (bE ..)with
  |int i=>exact a.iD rfl λt=>⟨i::d,.cons _ _ z⟩
theorem Kk.t(h:Kk k n)(a:n≠1):∃i y,k=.aE [.int i,y]:=by
 cases h with
 |int=>exact absurd rfl a
 |ii=>exact cE _ _ rfl
 |ib=>exact cE _ _ rfl
theorem aeT(p:n≠1):∀{l:List Value},bX g h f l->(∀x∈f,Kk x n)->∃b,KatTups h l b/\b.length=f.length/\∀v∈b,∃i t,v=Value.int i t:=by
 induction f with
 |nil=>exactλr Y=>r.jz ⟨[],.nil,rfl,λY h=>absurd h gh⟩
 |cons k f ih=>
  refineλr o=>r.ie λc cs a r=>az (ih r λx m=>o x (cP _ m)) λb z=>cF ((o k (bE ..)).t p) λi y w=>?_;rw[w]at a;exact a.m6 λT aj m j cr s=>bX.i2 cr (λt d Y j=>⟨.int i t::b,.cons j rfl rfl rfl z.1,aP Nat.succ z.2.1,λv q=>(dW.mp q).elim (λe=>cE i t e) (z.2.2 v)⟩) j
theorem aN.dy{L:bQ g}(S:aN L q A s)(hm:q.mu a=some (eT aj n))(hf:f aj.toArray=gw.toArray)(i:aj.length<=64)(d:gw.length<=64)
 (k:∀{j h},TL s.heap h->aN L ⟨q.m0,dF q.mu a (some (eT gw j)),q.bK⟩ A {s with heap:=h}->R () {s with heap:=h}):wpAny (model g.prog g.w) aa (Builtin.List.listUpdate (.ref a) f) R jj s:=by
 have e:=(S.7 _ _ hm).1;haveI g2:=get?_update_seq e f;haveI sb:=Heap.SameBut.update s.heap a (Obj.mapSeq f);haveI le:64<=sizeLine:=by rw[sizeLine_eq];decide
 rw[hf]at g2;exact listUpdate_at e rfl (k (S.tl (λb o n Y e=>sb.extBut b o n e) λc m x=>iY.nt rfl (by decide) c m (dH (e.symm.trans x))) (S.swap hm (iY.nt rfl (by decide)) JS sb.extBut g2)) (aV i le)<|B hf (Nat.le_succ_of_le (aV d le))
theorem QA{L:bQ g}{st:SortSt}(S:aN L q A s)(k:q.mu b=some (eT l v))(ha:q.mu a=some (eT [] m))(n:b≠a)(p:(arrOf st).map (·.2)=List.toArray gw)(r:gw.length<=64)(d:l.length<=64)(hf:failedOf st=none)
 (bZ:∀{b8 t f},b8 a=some (eT (katRev bW gw) t)->(∀c o,c≠a->c≠b->q.mu c=some o->b8 c=some o)->TL s.heap f.heap->aN L ⟨q.m0,b8,q.bK⟩ A f->P (.done (.ret .none)) f):wpAny (model g.prog g.w) aa (ksk_tail a bW m (.ref b) st) P jj s:=by
 unfold ksk_tail;try dsimp only
 refine B p ?_;rw[kat_outs];refine cD (S.dy k rfl d (fw _) λ{h y} t1 S=>cD (wpAny_letGo ?_));haveI i:=(dA (x:=some (eT [] h)) (cQ n)).trans ha;refine cD (seqEpoch_at (S.7 _ _ i).1 rfl (cD (S.dy i rfl (fw _) (by rw[kat_len];exact r) λ{j z} u S=>?_)))
 simp only[hf];rw[bne_self_eq_false];refine B (bx gH) ?_;exact dX (bZ fC (λc o h j e=>(dA h).trans ((dA j).trans e)) (t1.trans u) S)
theorem bX.getD(r:bX g h E aj)(i:Nat):bH g h (E.getD i .none) (aj.getD i Value.none):=by
 simp only[List.getD_eq_getElem?_getD,List.getD_eq_getElem?_getD];cases e:E[i]? with
 |none=>
  exact B (List.getElem?_eq_none (r.len▸List.getElem?_eq_none_iff.mp e)) .none
 |some v=>exact az (r.get i v e) λa z=>B z.1 z.2
theorem bX.PL(r:bX g h E aj):∀l:List Nat,bX g h (l.map λi=>E.getD i .none) (l.map λi=>aj.getD i Value.none)
 |[]=>.nil
 |i::l=>.cons _ _ _ _ (r.getD i) (r.PL l)
theorem bX.Fs{bW:Bool}(r:bX g h E aj):bX g h (katRev bW E) (katRev bW aj):=by
 cases bW with
 |false=>exact r
 |true=>exact r.bW
theorem aip{L:bQ g}(S:aN L q A s)(hk:q.mu I=some (eT h nk))(ha:q.mu a=some (eT [] e1))(pM:I≠a)(J:bX g s.heap E aj)(l:bX g s.heap d h)(M:d.length=E.length)(pI:E.length<64)(n:kn≠0)(u:∀x∈d,V.kind x=kn)
 (bZ:∀{b8 n' gw sL f},vH bW d E gw->bX g s.heap gw sL->b8 a=some (eT sL n')->(∀c o,c≠a->c≠I->q.mu c=some o->b8 c=some o)->TL s.heap f.heap->aN L ⟨q.m0,b8,q.bK⟩ A f->P (.done (.ret .none)) f):
 wpAny (model g.prog g.w) aa (ksk_end a bW aj.toArray e1 (.ref I) h.toArray) P jj s:=by
 have lv:=J.len;have N:=l.len;have lc:=N.symm.trans (M.trans lv);have k:aj.length<64:=aT lv pI;have R:(katRev bW h).length=(katRev bW aj).length:=by simp only[kat_len,kat_len,lc]
 unfold ksk_end;try dsimp only
 have step:∀{t:Sem PySem.Fin},wpAny (model g.prog g.w) aa t P jj s->wpAny (model g.prog g.w) aa (if bW=true then(do let _<-rule "list.sort.reverse";t)else t) P jj s:=λ{t} ht=>by
  cases bW with
  |false=>exact ht
  |true=>exact cD (wpAny_rule ht)
 refine step<|B (kat_pairs bW lc)<|B gN ?_;by_cases b:aj.length<2
 .rw[bA b,bA b];refine cD (dX ?_);simp only[StateT.run_pure];refine cD (dX ?_);try dsimp only
  refine QA S hk ha pM (gw:=katRev bW aj) (Array.toList_inj.mp ?_) (by rw[kat_len];exact c9 k) (B lc (c9 k)) rfl λy W t S=>bZ (ais M (B lv b)) J (by rw[ahz]at y;exact y) W t S
  rw[Array.toList_map,ksk_zip];exact List.map_snd_zip (Nat.le_of_eq R.symm)
 .refine B (bx b)<|B (bx b) ?_;have b:=Nat.not_lt.mp b;haveI Qc:=l.Fs (bW:=bW);have kd:∀i,i<aj.length->Kk ((katRev bW d).getD i .none) kn:=λi hi=>by
   haveI mh:i< (katRev bW d).length:=by simp only[kat_len,N,lc];exact hi
   refine B List.getD_eq_getElem?_getD ?_;refine B (dZ mh) ?_;exact kk (u _ ((BU bW _).mem_iff.mp (List.getElem_mem mh))) n
  have tree:(kas_sort aj.length).kasWp (kas_ask g.prog g.w aa (if kn=1 then oneType' else tuples' true) (katRev bW h)) (λp s3=>s3=s/\iK aj.length p/\jN vm (du (λi=>((katRev bW d).getD i V.none).pr) p) aj.length) s:=
   Ok.wp (λi j C hi hj hc=>aeO (kd i hi) (kd j hj) (Qc.getD i) (Qc.getD j) hc) (λp hp=>⟨rfl,hp⟩) (aiq (PC λi=>(katRev bW d).getD i V.none) (Nat.le_of_succ_le b))
  haveI X:wpAny (model g.prog g.w) aa (keyKind' h.toArray) (λjY f=>jY=(if kn=1 then oneType' else tuples' true)/\f=s) jj s:=by
   by_cases Z:kn=1
   .subst Z;exact az (aeR l λx m=>kk (u x m) n) λkz hz=>B (ksk_kind hz (by rw[gN,lc];exact b)) (dX ⟨rfl,rfl⟩)
   .refine B (bx Z)<|az (aeT Z l λx m=>kk (u x m) n) λfs z=>kat_kind z.1 (by simp only[z.2.1,M,lv];exact Nat.le_of_succ_le b) (λv hv=>cF (z.2.2 v hv) λi t e=>B e (Looks.of_pure rfl)) (by rfl) ⟨by rfl,rfl⟩
  refine cD (wpAny_mono X (λjY s0 NS=>?_) λY Y x=>x);refine aU NS λEk ZY=>?_;try clear NS
  subst Ek;haveI El:=ZY;haveI El:=El.symm;subst El;refine cD (wpAny_mono (kat_run (G:=λp s3=>s3=s/\iK aj.length p/\jN vm (du (λi=>((katRev bW d).getD i V.none).pr) p) aj.length) (Q:=λGN f=>f=s/\∃p:Array Nat,arrOf GN=p.map (kas_item ((List.toArray (katRev bW h)).zip (List.toArray (katRev bW aj))))/\failedOf GN=none/\
   iK aj.length p/\jN vm (du (λi=>((katRev bW d).getD i V.none).pr) p) aj.length)
   R (by rw[kat_len];exact b) (by rw[kat_len];exact k) (λp' GN f a1 a2 a3 a4=>⟨a4.1,p',a2,a3,a4.2⟩) (by rw[kat_len];exact tree)) (λr f x=>?_) λY Y x=>x)
  refine aU x λuK K6=>?_;try clear x
  haveI uK:=uK.symm;subst uK;refine az K6 λp K7=>eI K7 λuS hf hp hu=>?_;clear K7;try clear K6
  exact QA S hk ha pM (kat_snds R uS) (by simp only[b9,Array.length_toList,hp.size];exact c9 k) (B lc (c9 k)) hf λy W t S=>
   bZ (air u n (N.trans lc) lv hp hu) ((J.Fs.PL p.toList).Fs) y W t S
def CH(g:Gd)(aa:Around)(L:bQ g)(q:Lq)(A:H)(f:Value)(E b:List V)(ex:Addr->Option Obj):Prop:=
 ∀{i:Nat} {mu s v k a},(∀c o,ex c=some o->mu c=some o)->aN L ⟨q.m0,mu,q.bK⟩ A s->E[i]? =some v->b[i]? =some k->bH g s.heap v a->
  wpAny (model g.prog g.w) aa (call f [a]) (λck s2=>TL s.heap s2.heap/\aN L ⟨q.m0,mu,q.bK⟩ A s2/\bH g s2.heap k ck) jj s
theorem Qz{L:bQ g}(S:aN L q A s)(hm:q.mu a=some (eT aj n))(N:bX g s.heap E aj)(y:E.length<64)(C:p.length=E.length)(hn:kn≠0)(pN:∀x∈p,V.kind x=kn)(pL:∀c o,ex c=some o->c≠a/\q.mu c=some o)(AJ:CH g aa L q A f E p ex)
 (bZ:∀{b8 R gw sL b},TL s.heap b.heap->vH bW p E gw->bX g b.heap gw sL->b8 a=some (eT sL R)->(∀c o,c≠a->q.mu c=some o->b8 c=some o)->aN L ⟨q.m0,b8,q.bK⟩ A b->P (.done (.ret .none)) b):
 wpAny (model g.prog g.w) aa (ksk_tree a f bW) P jj s:=by
 have lv:=N.len;have qW:aj.length<64:=aT lv y;have ca:=(S.7 _ _ hm).1;have le:64<=sizeLine:=by rw[sizeLine_eq];decide
 refine cD (listItems_at ca rfl (cD (S.dy hm rfl (c9 qW) (fw _) λ{e1 G} t1 S1=>?_)));haveI Up:=(S1.7 _ _ fC).1;refine cD (seqEpoch_at Up rfl (cD (wpAny_newTuple (cD (wpAny_newList (wpAny_holding ?_) (fw _))) (aV (c9 qW) le))));haveI S2:=S1.jS (tk:=s.toks) (hX G (seqObj "tuple" aj.toArray.toList.toArray 0));haveI I:TL G _:=.of (hX G (seqObj "tuple" aj.toArray.toList.toArray 0));dsimp only;generalize G.push (seqObj "tuple" aj.toArray.toList.toArray 0)=W at*;have eC:=S2.size;haveI S3:=(S2.jS (tk:=s.toks) (hX W (eT [] 0))).oj eC (iY.nt rfl (by decide)) (mJ _ rfl)
 haveI t3:=t1.trans (I.trans (.of (hX W (eT [] 0))));generalize W.objs.size=M at*;have X:M≠a:=λe=>gM eC.4 (B e fC);have i:∀c o,c≠a->q.mu c=some o->c≠M:=λc o n e=>mr ((dA n).trans e) eC.4;refine cD (wpAny_rule ?_);rw[List.forIn_toArray];refine cD (wpAny_mono (ksk_fold (λj b=>∃b8 d i,b8 M=some (eT d i)/\b8 a=some (eT [] e1)/\(∀c o,c≠a->q.mu c=some o->b8 c=some o)/\bX g b.heap (p.take j) d/\TL s.heap b.heap/\aN L ⟨q.m0,b8,q.bK⟩ A b) (Q:=λY b=>∃b8 d i,b8 M=some (eT d i)/\b8 a=some (eT [] e1)/\(∀c o,c≠a->q.mu c=some o->b8 c=some o)/\bX g b.heap p d/\TL s.heap b.heap/\aN L ⟨q.m0,b8,q.bK⟩ A b) aj 0 _
  (d_ _ ([]) 0 (ee fC ((dA (cQ X)).trans fC) (λc o n e=>(dA (i c o n e)).trans ((dA n).trans e)) .nil t3 S3)) (λj cv b hx h=>?_) λb h=>?_) (λY b h=>?_) λY Y x=>x)
 .rw[Nat.zero_add]at h;refine gn λZ=>d7 h λb8 d F4 Am=>iM Am λl u m k t S=>?_;clear Am;try clear h
  have v:j<E.length:=B lv ((fR.mp hx).1);haveI NG:=dZ (B C v);haveI NR:=dZ v;refine az ((N.b_ t).get j _ NR) λum r=>Z ?_;cases r.1.symm.trans hx;refine cD (wpAny_attempt (wpAny_mono (AJ (λc o e=>m c o (pL c o e).1 (pL c o e).2) S NR NG r.2) (λck s2 z=>?_) λY Y x=>x.elim));haveI oO:=k.len.symm.trans (B k9 (Nat.min_eq_left (c9 (C▸v))));refine cD (z.2.1.dy l (List.push_toArray ..) (B oO (c9 (Nat.lt_trans v y))) (by refine B cx ?_;refine B oO ?_;exact c9 (df v y)) λ{R h'} J S'=>dX (fF rfl (d_ _ (d++[ck]) R (ee fC ((dA (cQ X)).trans u) (λc o n e=>(dA (i c o n e)).trans (m c o n e)) ?_ (t.trans (z.1.trans J)) S'))))
  rw[Nat.zero_add,GX NG];exact bX.append (.cC (z.2.2.b_ J)) (k.b_ (z.1.trans J))
 .rw[Nat.zero_add]at h;refine gn λZ=>d7 h λb8 d F4 Ao=>iM Ao λl u m k t S=>Z ?_;clear Ao;try clear h
  rw[List.take_of_length_le (Nat.le_of_eq (C.trans lv))]at k;exact d_ b8 d F4 (ee l u m k t S)
 .refine d7 h λb8 d F4 K9=>iM K9 λl u m k t S=>?_;clear K9;try clear h
  exact cD (listItems_at (S.7 _ _ l).1 rfl (aip S l u X (N.b_ t) k C y hn pN λso r n1 n2 I S=>bZ (t.trans I) so (r.b_ I) n1 (λc o n e=>n2 c o n (i c o n e) (m c o n e)) S))
noncomputable def qY(A:H)(h:Heap):Addr->Option Obj:=λb=>cond (A b).isSome none (h.get? b)
theorem Iz(e:A a=some o):qY A h a=none:=by unfold qY;refine B e ?_;rfl
theorem wC(e:A a=none):qY A h a=h.get? a:=by unfold qY;refine B e ?_;rfl
theorem wB(e:qY A h a=some o):A a=none/\h.get? a=some o:=by
 haveI n:=jT λx y=>gM (Iz y) e;exact⟨n,(wC n).symm.trans e⟩
theorem aN.G8(S:aN L q A s)(e:L.G a=some o):A a=none:=jT λx y=>gM (S.6 a x y).1 e
def Lo(g:Gd)(s0:Shared)(A:H)(s:Shared):Prop:=Q5
 (s={s0 with heap:=s.heap,toks:=s.toks})
 (∀b o,g.gB.get? b=some o->qY A s.heap b=some o)
 (g.gB.objs.size<=s.heap.objs.size)
 (∀a o,A a=some o->∃co,s.heap.get? a=some co/\jd g s.heap o co)
 (∀a aF,A a=some (.fN aF)->(a==sysModules)=false)
theorem aN.lo{L:bQ g}(S:aN L q A s):Lo g L.s0 A s:=⟨S.1,λb o e=>(wC (S.G8 (L.dM b o e))).trans (S.2 b o (L.dM b o e)),aV L.above (c9 S.3.lt),S.5,S.8⟩
noncomputable def Lo.qX(S:Lo g s0 A s)(av:Env)(ae:Addr)(hL:s.heap.objs.size<=ae)(k:av.scope.kind=.function)(gl:av.globals=mainGlobals)(bu:av.builtins=builtinsNs):bQ g:=
 ⟨av,ae,qY A s.heap,s0,S.2,jT λo e=>gM (oa _ hL) (wB e).2,aV S.3 hL,k,gl,bu⟩
theorem Lo.wZ(S:Lo g s0 A s)(keep:∀b o,s.heap.get? b=some o->c.get? b=some o)(ns:c.Ns ae q1.m0)(d:∀a o,q1.mu a=some o->c.get? a=some o/\a≠ae/\s.heap.objs.size<=a)(lr:iA c (S.qX av ae hL k gl bu) q1):aN (S.qX av ae hL k gl bu) q1 A {s with heap:=c,toks:=tk}:=⟨
 aP (λx:Shared=>{x with heap:=c,toks:=tk}) S.1,
 λb o e=>keep b o (wB e).2,
 ns,
  lr,
 λa o e=>az (S.4 a o e) λco z=>⟨co,keep _ _ z.1,z.2.b_ (.of keep)⟩,
  λa o e=>az (S.4 a o e) λco z=>have lt:=Heap.lt_size z.1
 (aS (Iz e) (Nat.ne_of_lt (j_ lt hL)) (jT λo y=>Nat.not_lt.mpr (d a o y).2.2 lt)),
   λa o e=>br (d a o e) λx y z=>aS x y (jT λo y=>gM (oa _ z) (wB y).2),
   S.5⟩
theorem aN.sD(S:aN L q A s)(K:aN (S.lo.qX av ae hL k gl bu) q1 h f):TL s.heap f.heap/\aN L q h f:=by
 have d:∀a o,A a=none->s.heap.get? a=some o->qY A s.heap a=some o:=λa o n e=>(wC n).trans e;haveI t:TL s.heap f.heap:=λa c n e=>K.2 _ _ (d _ _ (jT λx y=>S.vM y c n e) e);have g:=λo=>d _ o (jT λx y=>(S.6 _ x y).2.1 rfl);haveI mk:=λa o e=>d _ o (S.tu e) (S.7 a o e).1;refine⟨t,K.1,λb o e=>K.2 _ _ (d _ _ (S.G8 e) (S.2 _ _ e)),S.3.at' λo e=>K.2 _ _ (g o e),S.4.kf t λY Y e=>.inr e,K.5,λa o e=>?_,λa o e=>br (S.7 a o e) λY y z=>aS (K.2 _ _ (mk a o e)) y z,K.8⟩;have gn:=(K.6 a o e).1;exact aS (jT λx y=>gM gn (d _ _ (S.G8 y) (S.2 _ _ y))) (λy=>az S.3 λo z=>cF z λes i z=>gM gn (y▸g o z.1)) (jT λx y=>gM gn (mk a x y))
theorem af2(y:Nm):y.S≠PS "%lam":=bne_iff_ne.mp (Nm.mV (p:=λy=>y.S !=_) (by decide+kernel) y)
theorem qf(f:aJ)(sc:Scope)(y:Nm):jx f sc y.S=sc.names.lookup y.S:=bx (af2 y)
theorem D1(h:jx f sc x=some k)(a:k≠.globalExplicit):sc.names.lookup x=some k:=by
 unfold jx at h
 split at h
 .split at h
  .injection h with h;subst h;exact absurd rfl a
  .exact nn h
 .exact h
noncomputable def kK(xs:List Nm)(aj:List Value):List (PySem.Str×Value):=(xs.map (·.S)).zip aj
theorem Dr:∀{aj:List Value},y∈(kK xs aj).map (·.1)->∃x∈xs,x.S=y:=by
 induction xs with
 |nil=>exactλh=>absurd h gh
 |cons x xs ih=>
  intro aj h;cases aj with
  |nil=>exact absurd h gh
  |cons c aj=>exact(dW.mp h).elim (λe=>⟨x,bE ..,e.symm⟩) λh=>az (ih h) λz w=>⟨z,cP _ w.1,w.2⟩
theorem Uc(h:y∉xs):y.S∉(kK xs aj).map (·.1):=λm=>az (Dr m) λx z=>h (y_ z.2▸z.1)
theorem BG{l:List (PySem.Str×a)}(h:y∉(p::l).map (·.1)):y≠p.1/\y∉l.map (·.1):=⟨λe=>h (e▸bE ..),λz=>h (cP _ z)⟩
theorem T6(k:PySem.Str->Option NameKind):∀{m:PySem.Str->Option Value},y∉r.map (·.1)->bindL k r m y=m y:=by
 induction r with
 |nil=>exactλY=>rfl
 |cons p r ih=>
  intro m h;have h:=BG h;refine(ih h.2).trans ?_;by_cases z:k p.1=some .local
  .exact B (bA z) (bx h.1)
  .rw[bx z]
theorem T5(k:PySem.Str->Option NameKind):∀{m:PySem.Str->Option Value},y∉r.map (·.1)->bindC k r m y=m y:=by
 induction r with
 |nil=>exactλY=>rfl
 |cons p r ih=>
  intro m h;have h:=BG h;refine(ih h.2).trans ?_;by_cases z:k p.1=some .local
  .rw[bA z]
  .exact B (bx z) (bx h.1)
theorem afr(l:List (PySem.Str×Value)):(l++[(n,v)]).lookup y=(l.lookup y).or (if y=n then some v else none):=by
 induction l with
 |nil=>
  refine B List.lookup_cons ?_;by_cases z:y=n
  .rw[bA z,beq_iff_eq.mpr z];rfl
  .rw[beq_eq_false_iff_ne.mpr z,bx z];rfl
 |cons p l ih=>
  refine B List.lookup_cons<|B List.lookup_cons ?_;cases y==p.1 with
  |true=>rfl
  |false=>exact ih
theorem afq{l:List (PySem.Str×Value)}:y∉l.map (·.1)->l.lookup y=none:=by
 induction l with
 |nil=>exactλY=>rfl
 |cons p l ih=>exactλh=>by rw[List.lookup_cons,beq_eq_false_iff_ne.mpr (BG h).1];exact ih (BG h).2
theorem Dq(k:PySem.Str->Option NameKind):∀{E:List V} {aj:List Value} {f l:aH} {m cm:PySem.Str->Option Value},xs.Nodup->bX g h E aj->ik xs E f=some l->y∈xs->l y=some v->
 ∃b,bH g h v b/\(k y.S=some .local->bindL k (kK xs aj) m y.S=some b)/\(k y.S≠some .local->bindC k (kK xs aj) cm y.S=some b)/\(kK xs aj).reverse.lookup y.S=some b:=by
 induction xs with
 |nil=>exactλY Y Y d=>absurd d gh
 |cons x xs ih=>
  intro E aj f l m cm nd r e d i;cases E with
  |nil=>exact nn e
  |cons u E=>
   refine r.ie λc cs a r=>?_;have n:ik xs E (f.set x u)=some l:=e;have nd:=jb.mp nd;have o:(kK (x::xs) (c::cs)).reverse.lookup y.S=((kK xs cs).reverse.lookup y.S).or (if y.S=x.S then some c else none):=(aP (List.lookup y.S) List.reverse_cons).trans (afr _)
   refine B o ((dW.mp d).elim (λq=>?_) λd=>az (ih nd.2 r n d i) λb z=>cR b (cg z.1 z.2.1 z.2.2.1 (by rw[z.2.2.2];rfl)))
   rw[q]at i⊢;have eC:=Uc (aj:=cs) nd.1;have ev:=dH (i.symm.trans ((vF n nd.1).trans (bA rfl)));refine cR c (cg (B ev a) (λj=>(T6 k eC).trans (B (bA j) (bA rfl))) (λj=>(T5 k eC).trans (B (bx j) (bA rfl))) ?_);rw[afq (by rw[List.map_reverse,List.mem_reverse];exact eC),bA rfl];rfl
def v8(k:Nat)(aa:Around):Prop:=aa.handled=none/\aa.depth+3*k+2<=800/\aa.units+30*k+20<=8000
theorem Qd{a b c k:Nat}(h:b<=c):a+b+k<=a+(k+c):=aV (Nat.le_of_eq (Nat.add_assoc a b k)) (Nat.add_le_add_left (aV (Nat.le_of_eq (Nat.add_comm b k)) (Nat.add_le_add_left h k)) a)
theorem nV.deeper(h:nV (k+1) aa)(av:Env):v8 k (aa.deeper av):=
 (aS h.1 (aV (Nat.add_le_add_right (Qd (by decide)) 2) h.2.1) (aV (Nat.add_le_add_right (Qd (by decide)) 20) h.2.2))
noncomputable def bM.of(ck:o7 g){k:Nat}(hC:sg g (aA k) (k+1))(kd:Kd){aa:Around}(r:v8 (k+1) aa):bM g:=⟨aA k,aa,kd,k+1,ck,r.1,r.2.1,r.2.2,hC⟩
inductive tT(g:Gd)(f:aJ):Prop
 |mk (oc:Value) (od:Option Addr) (vr:Array (Option Value)) (name qual:PySem.Str) (params:Arguments) (body:List Stmt) (sc:Scope) (cl:List (PySem.Str×Addr)) (dV kV doc pm:Value) (an:Option Addr) (q6 ct:Value)
  (Y:g.K.lookup (fi f)=some ⟨oc,od,.func (fnX name qual params body sc cl dV kV doc pm an q6 ct),vr⟩) (Y:codeIn g.K q6 qual=true) (Y:body=m5 (eQ f).2 body) (Y:nT (jx f sc) (eQ f).2 body=true)
  (Y:sc.kind=.function) (Y:sc.isCoroutine=false) (Y:sc.isGenerator=false)
  (Y:∀h:Heap,g.K.In h->∀E aj,E.length=(eQ f).1.length->sf g h f E aj->∃n6,bX g h E n6/\∀s:Shared,s.heap=h->BindsTo s (fnX name qual params body sc cl dV kV doc pm an q6 ct) ⟨aj,[]⟩ (kK (eQ f).1 n6))
  (Y:∀x∈(eQ f).1,sc.names.lookup x.S=some .local\/sc.names.lookup x.S=some .cell) (Y:(eQ f).1.Nodup)
  (Y:(cl=[]/\∀p∈sc.names,p.2≠.free)\/((∀p∈sc.names,p.2≠.cell)/\∀p∈sc.names,p.2=.free->(cl.lookup p.1).isSome=true))
  (Y:∀x:Nm,sc.names.lookup x.S≠some .free) (Y:f=.ql->q6=.ref oR/\qual=PySem.Str.ofString "_law_clause"):tT g f
theorem Oa(he:av.scope=sc)(a:∀x,(sc.names.lookup x=some .cell\/sc.names.lookup x=some .free)->∃c,av.cells.lookup x=some c)(b:f=.ql->av.code=.ref oR/\av.qual=FA):gP (jx f sc) av:=by
 have k:∀{x k},jx f sc x=some k->k≠.globalExplicit->av.kindOf x=some k:=λe n=>by unfold Env.kindOf;exact B he (D1 e n)
 refine⟨λx e=>k e (by decide),λx e=>k e (by decide),λx e=>e.imp (λe=>k e (by decide)) λe=>k e (by decide),λx e=>a x (e.imp (λe=>D1 e (by decide)) λe=>D1 e (by decide)),λe=>?_⟩
 unfold jx at e;rw[bA rfl]at e;by_cases z:f=.ql
 .exact b z
 .rw[bx z]at e;exact nn e
theorem Ug{Q:V->H->Prop}{b:bM g}(e:b.aa=aa.deeper av)(h:lX b (eQ f).2 body){uo:bQ g}(he:uo.av=av)(fn:jO b.kd uo q1.mu)(S:aN uo q1 A s)(i:Ss b.C (eQ f).2 q1.bK A λfl Y A=>Q fl.val A)
 (kk:∀{v c d q1 a},Q v d->TL s.heap a.heap->aN uo q1 d a->bH g a.heap v c->R (.ok (.ret c)) a):codeAny (model g.prog g.w) aa (.func body av) R s:=by
 subst he;haveI x:=h uo q1 A _ s fn i S;unfold bM.wp at x;rw[e]at x;refine codeAny_func (wpAny_mono x (λfl a r=>?_) λY Y x=>x.elim);cases r with
 |mk f j k z t _ _ S r=>cases r with
  |next=>exact kk z t S .none
  |brk=>exact kk z t S .none
  |cont=>exact kk z t S .none
  |ret r=>exact kk z t S r
theorem IB(ck:o7 g)(qi:sg g (aA k) (k+1))(fr:tT g f)(hb:∀{sc body aa} (r:v8 (k+1) aa),body=m5 (eQ f).2 body->nT (jx f sc) (eQ f).2 body=true->lX (bM.of ck qi (jx f sc) r) (eQ f).2 body)(hr:nV (k+2) aa)
 (hC:aA (k+1) f E A Q) (S:Lo g s0 A s) (ra:sf g s.heap f E aj)
 (kk:∀{av ae hL q gl bu v i af q1 u},Q v af->TL s.heap u.heap->aN (S.qX av ae hL q gl bu) q1 af u->bH g u.heap v i->R (.ok (.ret i)) u):codeAny (model g.prog g.w) aa (.call (.ref (fi f)) ⟨aj,[]⟩) R s:=by
 obtain⟨l,M,hS⟩:=hC;cases fr with
 |mk oc od vr name qual params body sc cl dV kV doc pm an q6 ct hK AK N P q EG EN EF rD W m NI NH=>
 have a7:=g.a7.keeps λb o e=>(wB (S.2 b o e)).2;refine az (EF s.heap a7 E aj (tL M).symm ra) λG rv=>?_;haveI xQ:=g.vo.keeps λb o e=>(wB (S.2 b o e)).2;have xU:aa.depth<recursionLimit:=df (aV (jK _ _) hr.2.1) (show 800<recursionLimit by decide)
 refine codeAny_call_function xU (a7 _ _ hK) rfl EG EN rfl (codeRec_of a7 AK) (rv.2 s rfl _ _ _ _ ?_);have nm:∀{y:PySem.Str×Value},y∈kK (eQ f).1 G->∃z∈(eQ f).1,z.S=y.1:=λd=>Dr (List.mem_map_of_mem d);have go:∀{av j tk I},av.scope=sc->(e2:av.globals=mainGlobals)->(e3:av.builtins=builtinsNs)->av.locals=s.heap.objs.size->av.code=q6->av.qual=qual++PySem.Str.ofString ".<locals>."->(∀b o,s.heap.get? b=some o->j.get? b=some o)->j.Ns s.heap.objs.size I->
  (∀x,sc.names.lookup x=some .cell\/sc.names.lookup x=some .free->∃c,av.cells.lookup x=some c)->(∀x c,sc.names.lookup x=some .cell->av.cells.lookup x=some c->s.heap.objs.size<c/\∃o,j.get? c=some o/\o.data=.cell (bindC av.kindOf (kK (eQ f).1 G) (λY=>none) x))->
  (∀x y c,av.cells.lookup x=some c->av.cells.lookup y=some c->sc.names.lookup x=some .cell->x=y)->(∀y i,y∈(eQ f).1->sc.names.lookup y.S=some .local->bindL av.kindOf (kK (eQ f).1 G) (λY=>none) y.S=some i->(kK (eQ f).1 G).reverse.lookup y.S=some i->I y.S=some i)->
  j.NoLimit/\codeAny (model g.prog g.w) aa (.func body av) R {s with heap:=j,toks:=tk}:=λ{av j tk I} X e2 e3 p e6 e7 keep ns cl cf inj mv=>by
  have C:∀n,av.kindOf n=sc.names.lookup n:=λn=>by unfold Env.kindOf;exact B X rfl
  have oN:av.scope.kind=.function:=B X q;refine⟨xQ.keeps keep,Ug (b:=bM.of ck qi (jx f sc) (hr.deeper av)) (q1:=⟨I,λa=>if s.heap.objs.size<a then j.get? a else none,l⟩) rfl (hb _ N P) (uo:=S.qX av _ (dR _) oN e2 e3) rfl ⟨Oa X cl λe=>⟨e6.trans (NH e).1,e7.trans (by refine B ((NH e).2) ?_;rfl)⟩,p,λy=>(C y.S).trans (qf f sc y).symm,λy d=>?_,λy z c d hz Z c2=>y_ (inj _ _ c Z c2 ((qf f sc y).symm.trans d)),λy e=>NI y ((qf f sc y).symm.trans e)⟩ (S.wZ keep ns (λa o e=>?_) (.ja p λy v e=>?_)) hS λz t S r=>kk z ((TL.of keep).trans t) S r⟩
  .haveI d:=(qf f sc y).symm.trans d;exact az (cl _ (.inl d)) λc e=>aU (cf _ c d e) λlt w=>az w λo w=>d_ c o _ (aS e ((bA lt).trans w.1) w.2)
  .haveI e:(if s.heap.objs.size<a then j.get? a else none)=some o:=e
   by_cases z:s.heap.objs.size<a
   .rw[bA z]at e;exact⟨e,Nat.ne_of_gt z,c9 z⟩
   .rw[bx z]at e;exact nn e
  .by_cases d:y∈(eQ f).1
   .refine az (Dq av.kindOf (cm:=λY=>none) W rv.1 M d e) λi w=>⟨λn=>⟨i,mv y i d ((C _).symm.trans n) (w.2.1 n) w.2.2.2,w.1.b_ (.of keep)⟩,λn=>?_⟩;have n':=n.elim (λn=>(C _).symm.trans n) λn=>absurd ((C _).symm.trans n) (NI y);refine az (cl _ (.inl n')) λc e=>aU (cf _ c n' e) λlt J=>az J λo J=>(d_ c o i (cg e (.inl ((bA lt).trans J.1)) (J.2.trans (aP Data.cell (w.2.2.1 (by rw[C,n'];decide)))) (w.1.b_ (.of keep))))
   .exact nomatch (vF M d).symm.trans e
 refine m.elim (λm=>?_) λm=>?_
 .refine B m.1 ?_;have nf:∀x,sc.names.lookup x≠some .free:=λx e=>m.2 _ (ji e) rfl;refine wpAny_newFunctionEnv_cells q (λy d=>az (nm d) λz w=>aT w.2 ((rD z w.1).imp id λh=>⟨h,cellsFrom_some _ _ _ (.inl h)⟩)) λav he u x=>?_;have p:av.locals=s.heap.objs.size:=by rw[he];rfl
  have e5:av.cells=cellsFrom (s.heap.objs.size+1) sc.names []:=by rw[he];rfl
  refine cF x.done λj tk Ak=>aU Ak λZ3 keep=>?_;clear Ak;subst Z3;haveI ns:=x.toInCall.ns;rw[p]at ns;refine go (by refine B he ?_;rfl) (by refine B he ?_;rfl) (by refine B he ?_;rfl) p (by refine B he ?_;rfl) (by refine B he ?_;rfl) keep ns (λy d=>d.elim (λd=>?_) λd=>absurd d (nf y)) (λy c d hc=>?_) (λy z c Z c2 Y=>name_of_addr x.apart (ji Z) (ji c2)) λy i Y Y a Y=>a
  .exact B e5 (Option.isSome_iff_exists.mp (cellsFrom_some _ _ _ (.inl d)))
  .haveI a:=x.above y c (ji hc);rw[p]at a;exact⟨a,x.cell _ c hc⟩
 .have L:∀x,sc.names.lookup x≠some .cell:=λx e=>m.1 _ (ji e) rfl;refine wpAny_newFunctionEnv m.1 (λy d=>az (nm d) λz w=>aT w.2 ((rD z w.1).resolve_right (L _))) (λj xR sY=>?_) q;exact go rfl rfl rfl rfl rfl rfl (λb o e=>sY.extBut b o (Nat.ne_of_lt (Heap.lt_size e)) (Heap.get?_push_of_some _ e)) xR (λy d=>d.elim (λd=>absurd d (L y)) λd=>Option.isSome_iff_exists.mp (m.2 _ (ji d) rfl)) (λy c d=>absurd d (L y)) (λy z c Y Y d=>absurd d (L y)) λy i Y Y Y a=>a
theorem Ut{L:bQ g}(ck:o7 g)(a:sg g (aA k) (k+1))(fr:tT g f)(b:∀{sc body aa} (r:v8 (k+1) aa),body=m5 (eQ f).2 body->nT (jx f sc) (eQ f).2 body=true->lX (bM.of ck a (jx f sc) r) (eQ f).2 body)(hr:nV (k+2) aa)
 (hC:aA (k+1) f E A Q) (S:aN L q A s) (c:sf g s.heap f E aj):codeAny (model g.prog g.w) aa (.call (.ref (fi f)) ⟨aj,[]⟩) (λr d=>match r with|.ok (.ret v)=>eD L q s.heap Q v d|_=>False) s:=
 IB ck a fr b hr hC S.lo c λz Y K r=>⟨_,_,z,(S.sD K).1,(S.sD K).2,r⟩
inductive yX{g:Gd}(b:bM g)(L:bQ g)(q:Lq)(k:k_)(A:H)(h:Heap)(R:H->Prop):Value->Shared->Prop
 |mk (fq:Addr) (af:H) (tq ex:Addr->Option Obj) (s':Shared):R af->(k.Fd=true->af=A)->(∀a o,A a=some o->(∀t,o≠.tab t)->af a=some o)->TL h s'.heap->(∀a o,q.mu a=some o->tq a=some o)->aN L ⟨q.m0,tq,q.bK⟩ af s'->(∀a o,ex a=some o->tq a=some o)->
  (∀{A' E ks jM},nV b.k A'->(jM=af\/k.Fd=true)->mX b.C (q.bK .X) k E ks jM->CH g A' L q jM (.ref fq) E ks ex)->yX b L q k A h R (.ref fq) s'
def t'(b:bM g)(k:k_)(p:Expr):Prop:=∀{L:bQ g} {q A R s},gP b.kd L.av->tm (q.bK .X) k A R->aN L q A s->b.wp (eval p L.av) (yX b L q k A s.heap R) s
theorem vg:∀{E a:List V},mX C X k E a A->E.length=a.length/\∀(i:Nat) v x,E[i]? =some v->a[i]? =some x->mX C X k [v] [x] A
 |[],[],_=>⟨rfl,λi v x e=>nn e⟩
 |[],_::_,h=>by cases k<;>exact h.elim
 |_::_,[],h=>by cases k<;>exact h.elim
 |v::E,x::a,h=>by
  have key:mX C X k [v] [x] A/\mX C X k E a A:=by cases k<;>exact⟨⟨h.1,trivial⟩,h.2⟩
  haveI ih:=vg key.2;refine⟨aP Nat.succ ih.1,λi u y b c=>?_⟩;cases i with
  |zero=>injection b with b;subst b;injection c with c;subst c;exact key.1
  |succ i=>exact ih.2 i u y b c
theorem H8{L:bQ g}{q:Lq}{K:V}(x:codeAny (model g.prog g.w) aa c (λr d=>match r with|.ok (.ret v)=>eD L ⟨q.m0,mu,q.bK⟩ s.heap (λr f=>r=K/\f=A) v d|_=>False) s):
 codeAny (model g.prog g.w) aa c (λr s2=>match r with|.ok (.ret ck)=>TL s.heap s2.heap/\aN L ⟨q.m0,mu,q.bK⟩ A s2/\bH g s2.heap K ck|.ok _=>False|.error e=>jj e s2) s:=
 codeAny_mono x λr d z=>by
  cases r with
  |ok fl=>cases fl with
   |ret=>exact z.rec λv f w t S r=>by refine aU w λa h=>?_;try clear w;haveI a:=a.symm;subst a;have b:=h;have b:=b.symm;subst b;exact aS t S r
   |_=>exact z.elim
  |error e=>exact z.elim
theorem aeQ(a:iQ b.kd f.nm=true)(hf:f.cls=none):t' b (.fn f) (.Name (PS f.nm) np):=λ{L q A R s} ko c S=>
 xi S ko a (Aa f) (b.ck.3 f hf) ⟨_,A,q.mu,λY=>none,s,c,λh=>nf h,λY Y e Y=>e,.refl,λY Y e=>e,S,λY Y e=>nn e,λ{A' E n d} hr _ g {i mu s v k j} _ S l m r=>
  wpAny_call (H8 (b.hC f [v] d _ L _ s [j] A' hr ((vg g).2 i v k l m).1 S (.inl ⟨λe=>by(rw[e]at hf;exact ns hf),.cC r⟩)))⟩
theorem af0(f:aJ):copiedNames.contains (PS f.nm)=false:=(lT _).mp (aJ.mV (p:=λf=>!(copiedNames.contains (PS f.nm))) (by decide+kernel) f)
theorem aeP{b:bM g}(j:pO b.kd .X=true)(hf:f.cls.any (Cl.n9 .aO)=true)(hi:f.nm≠"__init__"):t' b (.bm f) (.Attribute (.Name (PS "self") np) (PS f.nm) ap):=λ{L q A R s} ko M S=>by
 haveI P:f≠.jZ:=λe=>hi (by refine B e ?_;rfl)
 haveI Q:f≠.m9:=λe=>hi (by refine B e ?_;rfl)
 refine gn λl=>?_;obtain⟨⟨p,d,aF,y,W,Z⟩,hR⟩:=M;refine l ?_;haveI hv:aB b.C (.var .X) q.bK A λv G=>v=.ref p/\G=A:=cR _ (aS y rfl rfl);refine Attribute_any_ ((BI j).then ko hv S λ{v I G s'} w t c r=>?_) (by
  show(do let o<-attributeBase (.Name (PS "self") np) (PS f.nm) L.av (eval (.Name (PS "self") np) L.av);standAt ap.atName;let r<-holding [o] (getAttr o (PS f.nm) true);letTemporaryGo (.Name (PS "self") np) o r;pure r)=_
  rw[zv (by rfl)])
 refine gn λl=>aU w λm u=>?_;try clear w
 subst m;haveI x:=u;haveI x:=x.symm;subst x;cases r;refine l<|c.dB W Z λsQ n ak kr hk=>kbm_bound c.fr g.a7 (c.mq []) ak (BL b _ _) (b.ck.9 _) (b.ck.5 _ f P hf) (b.ck.6 f).1 (b.ck.13 f).1 (b.ck.13 f).2 (af0 f) (Og kr (OZ hf) hk) λh h' F N lt=>?_;haveI hq:=c.Bk (N _ (bE ..)).2 lt;haveI J:=c.vf F N;haveI S2:=c.step (tk:=s'.toks+1) J F.ns;haveI eC:=c.eC hq;haveI o1:=(N _ (bE ..)).1;refine⟨h,A,dF q.mu h (some (methodObj (.ref (fi f)) (.ref p))),dF (λY=>none) h (some (methodObj (.ref (fi f)) (.ref p))),_,hR,λY=>rfl,λY Y e Y=>e,t.trans (c.oY J),λa o e=>(dA (mr e eC.4)).trans e,S2.oj eC (iY.nt rfl (by decide)) o1,λa o e=>?_,λ{A' E ks jM} hr _ mj {i mu s3 v k I} hP S e3 e4 r=>?_⟩
 .by_cases z:a=h
  .simp only[z,fC]at e⊢;exact e
  .rw[dA z]at e;exact nn e
 .refine az ((vg mj).2 i v k e3 e4).1 λsv w=>?_;cases y.symm.trans w.1;exact wpAny_call (method_call (S.7 _ _ (hP _ _ fC)).1 (H8 (b.hC f _ _ _ L _ s3 [.ref p,I] A' hr w.2 S (.inl ⟨Q,.cons _ _ _ _ (.ref p) (.cC r)⟩))))
theorem aeF(h:ve A v R):∃E,R E/\ve A v λus=>us=E:=by
 cases v with
 |aE E=>exact cR E (aS h.2 h.1 rfl)
 |ref a=>exact Or.elim h (λh=>az h λE z=>⟨E,z.2.2,.inl ⟨E,z.1,z.2.1,rfl⟩⟩) λh=>az h λaF z=>⟨_,z.2.2,.inr ⟨aF,z.1,z.2.1,rfl⟩⟩
 |_=>exact h.elim
theorem aeG(h:ve A v R)(k:∀a o,A a=some o->(∀t,o≠.tab t)->b a=some o):ve b v R:=by
 cases v with
 |aE E=>exact h
 |ref a=>exact Or.elim h (λh=>az h λE z=>.inl ⟨E,k _ _ z.1 λY=>nofun,z.2⟩) λh=>az h λaF z=>.inr ⟨aF,k _ _ z.1 λY=>nofun,z.2⟩
 |_=>exact h.elim
theorem aex(e:(intKind g.prog g.w).is k a=true):bH g h (.int k) a:=by
 cases a with
 |int i t=>rw[<-(beq_iff_eq.mp e)];exact .int i t
 |_=>exact nf e
theorem aeU(dr:kc g h aF es):∀{aj:List Value},aj.length=es.length->(∀(j:Nat) v,aj[j]? =some v->∃k x,es[j]? =some (k,x)/\(intKind g.prog g.w).is k v=true)->bX g h (aF.map λp=>V.int p.1) aj:=by
 induction dr with
 |nil=>exactλb Y=>by rw[List.eq_nil_of_length_eq_zero b];exact .nil
 |cons k v e aF es a dr ih=>
  intro aj b d;cases aj with
  |nil=>injection b
  |cons c aj=>exact .cons _ _ _ _ (cF (d 0 c rfl) λf x z=>aex ((aP Prod.fst (dH z.1))▸z.2)) (ih (Nat.succ.inj b) λj=>d (j+1))
theorem U4{L:bQ g}(hh:aa.handled=none)(S:aN L q A s)(r:bH g s.heap v i)(e:ve A v R)
 (k:∀{E aj c tk},R E->bX g s.heap E aj->aj.length<=16777216->(∀b o,s.heap.get? b=some o->c.get? b=some o)->Q aj {s with heap:=c,toks:=tk}):wpAny (model g.prog g.w) aa (collect i) Q jj s:=by
 haveI sz:∀{n:Nat},n<=16777216->n<=sizeLine:=λk=>B sizeLine_eq k;cases v with
 |aE E=>exact r.m6 λa aj n f cr d=>wpAny_collect_seq a (.inr rfl) f rfl rfl (λc z=>k e.2 cr d z) (by rw[gN];exact sz d)
 |ref a=>
  refine bH.kQ rfl r (Or.elim e (λe=>az e λE z=>S.ref z.1 λaj n f cr=>?_) λe=>az e λaF z=>S.dI z.1 λes l dr=>?_)
  .have d:aj.length<=16777216:=aT cr.len (aV z.2.1 sE);exact wpAny_collect_seq a (.inl rfl) f rfl rfl (λc y=>k z.2.2 cr d y) (by rw[gN];exact sz d)
  .refine az l.dictAt λm f_=>?_;have h:=DO dr▸z.2.1;refine kdu_collect (kdl_dict (S.8 _ _ z.1)) hh f_ (sz (aV h (by decide))) λc tk p y it=>k z.2.2 (aeU dr (by rw[Array.length_toList,it.1]) λj v e=>it.2 j v (aT Array.getElem?_toList e)) (by rw[Array.length_toList,it.1];exact aV h (by decide)) y
 |_=>exact e.elim
noncomputable def yi(bW:Bool)(f:Value):List (PySem.Str×Value):=(PS "key",f)::cond bW [(PS "reverse",.bool true)] []
theorem Om(bW:Bool)(q:Addr):(∀a,argsOk "sorted" ⟨[a],yi bW (.ref q)⟩)/\(∀x,argsOk "list.sort" ⟨[.ref x],yi bW (.ref q)⟩)/\∀x,Builtin.«list.sort» ⟨[.ref x],yi bW (.ref q)⟩=ksk_tree x (.ref q) bW:=by
 cases bW with
 |false=>exact⟨λa=>ksk_s1 _ _,λx=>ksk_l1 _ _,λx=>ksk_t1 q x⟩
 |true=>exact⟨λa=>ksk_s2 _ _ _,λx=>ksk_l2 _ _ _,λx=>ksk_t2 q x true⟩
inductive p7{g:Gd}(b:bM g)(k:k_):Bool->List Keyword->Prop
 |cC (p:Expr) (kp:Pos):t' b k p->p7 b k false [⟨some (PS "key"),p,kp⟩]
 |bW (p:Expr) (kp:Pos) (c:Nat) (p2 Oh:Pos):t' b k p->p7 b k true [⟨some (PS "key"),p,kp⟩,⟨some (PS "reverse"),.Constant (.bool true) c p2,Oh⟩]
noncomputable abbrev Be(pos:Pos)(j6:List Keyword)(av:Env):List (Option PySem.Str×Sem Value):=backToKw pos (keywordEach j6 av)
theorem p7.Qs{bW:Bool}(x:p7 b k bW a)(pos:Pos)(av:Env):(Be pos a av).all (·.1.isSome)=true/\(Be pos a av).any (·.1.isNone)=false/\a.length<=2:=by
 cases x<;>exact aS rfl rfl (bt rfl)
theorem p7.run{bW:Bool}(x:p7 b k bW d)(ko:gP b.kd L.av)(e:tm (q.bK .X) k A R)(S:aN L q A s){T:List (PySem.Str×Value)->Shared->Prop}(z:∀{f a},yX b L q k A s.heap R f a->T (yi bW f) a):b.wp (evalAll ((Be pos d L.av).map (·.2))) (λg a=>T (((Be pos d L.av).filterMap (·.1)).zip g) a) s:=by
 cases x with
 |cC p h ok=>
  show b.wp (evalAll [do let v<-eval p L.av;standAt pos;pure v]) _ s
  exact evalAll_cons (cD (dD (ok ko e S) λr=>cD (wpAny_standAt (dX (evalAll_nil (z r))))))
 |bW p h c i j ok=>
  exact evalAll_cons (cD (dD (ok ko e S) λr=>cD (wpAny_standAt (dX (evalAll_cons (cD (Constant_bool (cD (wpAny_standAt (dX (evalAll_nil (z r))))))))))))
theorem bM.in1(b:bM g):nV b.k b.aa.in1:=(aS b.hh (aV (jK _ 2) b.hd) (by have:=b.hu;lia))
theorem bM.aeq(b:bM g):nV b.k b.aa.in1.in1:=(aS b.hh (aV (jK _ 2) b.hd) (by have:=b.hu;lia))
theorem aN.D9(c:iA h L q)(S:aN L ⟨q.m0,b8,q.bK⟩ d b)(t:TL h b.heap)(hm:∀a o,q.mu a=some o->b8 a=some o):aN L q d b:=
 S.BR L.kind L.qg L.ud hm (c.kf t λY Y e=>.inr e)
theorem agE{b:bM g}(hg:iQ b.kd "sorted"=true)(hn:fI p=true)(x:bz b a p)(y:p7 b k bW t):bz b (.sorted a k bW) (.Call (.Name (PS "sorted") np) [p] t pos):=λL q A Q s ko he S=>by
 haveI u:=y.Qs pos L.av;refine wpAny_Call_Name_kw (Dt S ko hg rfl ?_);rw[vK hn];refine callWith_of (by refine(show(backToKw pos (keywordEach t L.av)).any (·.1.isNone)=false from u.2.1).trans ?_;rfl) (Fm (f:="sorted") rfl) (evalArgs_kw u.1 ?_)
 show b.wp (do
  let v<-(if false=true then(do let v<-eval p L.av;standAt pos;pure v)else eval p L.av)
  let lE<-(if false=true then(do
   if<-notIterableAtAll v then
    rule "star.not-iterable";raiseError "TypeError" s!"Value after * must be an iterable, not {← typeNameOf v}"
   PySem.collect v)else pure [v])
  return lE++(<-holding lE (spliced (backTo pos [])))) _ s
 refine B (bx gH)<|cD (x.then ko he S λ{v C ka s1} q1 t1 G r1=>cD ?_)
 refine B (bx gH)<|dX (cD (wpAny_holding (dX (dX ?_))));refine az (aeF q1) λE w=>y.run (T:=λkw I=>g.K.In I.heap/\b.wp (call (.builtin "sorted") ([]++[C]) kw) (eD L q s.heap Q) I) ko w.1 G λ{fv d} z=>?_;cases z with
 |mk fq af tq ex d J _ j M h l m ask=>
  refine⟨l.kn,?_⟩;haveI F:=Om bW fq;refine gn λkG=>aU J λpI N=>az N λks R=>br R λW Z5 xT=>?_;clear N R;try clear J
  obtain⟨n,EU,pN⟩:=Z5;refine kG<|call_function_entry_kw kind_sorted plain_sorted entry_sorted (F.1 C)<|cD (dX ?_);refine cD (U4 b.hh l (r1.b_ M) (aeG w.2 j) λ{us aj i X} r rv oO Z=>?_);have r:=r.symm;subst r;refine cD (wpAny_newList ?_ (B sizeLine_eq oO));haveI S3:=l.jS (tk:=X) Z;haveI eC:=S3.size;haveI S4:=(S3.jS (tk:=X) (hX i (eT aj 0))).oj eC (iY.nt rfl (by decide)) (mJ _ rfl)
  have t4:=TL.of λb o e=>hX i (eT aj 0) b o (Z b o e);have ne:∀{c o},tq c=some o->c≠i.objs.size:=λe=>mr e eC.4;refine cD (wpAny_holding (wpAny_call_entry_kw slot_list_sort ⟨_,mJ _ rfl,rfl⟩ entry_list_sort ?body (F.2.1 _)));simp only[F.2.2];refine wpAny_mono (Qz (P:=λbZ d=>bZ=.done (.ret .none)/\eD L q s.heap Q (.ref i.objs.size) d) S4 fC (rv.b_ t4) pI (vg W).1.symm EU pN (λc o e=>⟨ne (m c o e),(dA (ne (m c o e))).trans (m c o e)⟩) (ask b.aeq (.inl rfl) W)
   λ{afN n2 gw sL s2} t5 so ro m2 kb S5=>⟨rfl,?_⟩) (λbZ d hf=>?_) λY Y x=>x.elim
  .haveI tt:=M.trans (t4.trans t5);haveI S6:=aN.D9 G.4 S5 tt λc o e=>kb c o (ne (h c o e)) ((dA (ne (h c o e))).trans (h c o e));haveI o2:=S5.zT rfl rfl m2 (jT λo e=>ne (h _ o e) rfl);exact .at (t1.trans tt) (xT gw so _ o2.1) (S6.zi o2 (S5.7 _ _ m2).1 (.list _ _ _ ro) λY=>nofun) (.ref _)
  .obtain⟨rfl,hf⟩:=hf;exact⟨_,rfl,dX ⟨_,rfl,hf⟩⟩
theorem aN.ajp(S:aN L q A s)(e:A p=some o)(r:s.heap.get? p=some co):aN L ⟨q.m0,dF q.mu p (some co),q.bK⟩ (A.jQ p) s:=
 br (S.6 p o e) λa b c=>S.to p (λY Y Y Y e=>e) S.3 b a (S.vM e) (λY z=>gM c z) mw λY z=>aT z r
theorem UX(A:H)(p:Addr)(o:bN):(A.jQ p).set p o=A.set p o:=funext λc=>by
 unfold H.set;by_cases z:c=p
 .rw[bA z,bA z]
 .rw[bx z,bx z];exact bx z
theorem agD{b:bM g}(x:bz b o p)(hn:mz p=true)(hl:(ap.endLine==pos.line)=true)(y:p7 b k bW d):bz b (.vG o k bW) (.Call (.Attribute p (PS "sort") ap) [] d pos):=λL q A Q s ko he S=>by
 haveI f:=y.Qs pos L.av;refine methodCall_KW (pl:=do return (<-importBound p L.av).getD true) (x.then ko he S λ{v cv ka s1} q1 t1 m r1=>?_) ?_
 .refine gn λr=>aU q1 λAx I=>cF I λp' E J=>eI J λt h M q2=>?_;clear I J;try clear q1
  obtain⟨P,rfl,akD,aj4⟩:=Ax;refine r ?_;injection t with t;subst t
  cases r1;refine m.ref h λaj n N cr=>getMethod_builtin ⟨_,N,rfl⟩ F.plainAttrs_list F.slot_list_sort F.type_list_sort (λa e=>by injection e with e;subst e;exact⟨_,N,rfl⟩) ?_
  refine callWith_of (by refine(show(backToKw pos (keywordEach d L.av)).any (·.1.isNone)=false from f.2.1).trans ?_;rfl) Fn (evalArgs_kw_nil f.1 ?_)
  refine y.run (T:=λkw R=>g.K.In R.heap/\b.wp (call (.builtin "list.sort") ([.ref P]++[]) kw) (eD L q s.heap Q) R) ko q2 m λ{fv i} z=>?_;cases z with
  |mk W af tq ex i X u _ t2 j l C ask=>
   cases u M;refine⟨l.kn,?_⟩;haveI F:=Om bW W;refine gn λr=>aU X λpI Z=>az Z λks xD=>br xD λxP uM xT=>?_;clear Z xD;try clear X
   obtain⟨n0,EU,pN⟩:=uM;refine r<|l.ref h λaj1 n2 c2 lB=>wpAny_call_entry_kw slot_list_sort ⟨_,c2,rfl⟩ entry_list_sort ?body (F.2.1 _);show wpAny (model g.prog g.w) b.aa.in1 (Builtin.«list.sort» ⟨[.ref P],yi bW (.ref W)⟩) _ _ _;rw[F.2.2];haveI G:=(l.6 P _ h).2.2;have ne:∀{c o},tq c=some o->c≠P:=λe=>mr e G;refine wpAny_mono (Qz (P:=λbZ i=>bZ=.done (.ret .none)/\eD L q s.heap Q .none i) (l.ajp h c2) fC lB pI (vg xP).1.symm EU pN (λc o e=>⟨ne (C c o e),(dA (ne (C c o e))).trans (C c o e)⟩) (ask b.in1 (.inr M) xP)
    λ{afN n3 gw sL s2} t5 so ro m2 kb S5=>⟨rfl,?_⟩) (λbZ i hf=>?_) λY Y x=>x.elim
   .have tt:=t2.trans t5;haveI S6:=aN.D9 m.4 S5 tt λc o e=>kb c o (ne (j c o e)) ((dA (ne (j c o e))).trans (j c o e));haveI S7:=S6.zi (S5.zT rfl rfl m2 (jT λo e=>ne (j _ o e) rfl)) (S5.7 _ _ m2).1 (.list _ _ _ ro) λY=>nofun
    rw[UX]at S7;exact .at (t1.trans tt) (xT gw so) S7 .none
   .obtain⟨rfl,hf⟩:=hf;exact⟨_,rfl,hf⟩
 .show(do
   let ov<-attributeBase p (PS "sort") L.av (eval p L.av)
   standAt ap.atName
   methodCall p (PS "sort") ap pos L.av ov (([]).length+d.length) (backTo pos (starEach [] L.av)) (backToKw pos (keywordEach d L.av)))=_
  simp only[zv hn];haveI hp:methodCallPos true p L.av ap pos=pure pos:=by unfold methodCallPos;refine B hl ?_;rfl
  haveI xa:methodCallForm (([]:List Expr).length+d.length) (backTo pos (starEach [] L.av)) (backToKw pos (keywordEach d L.av))=true:=by
   unfold methodCallForm;simp only[show(backToKw pos (keywordEach d L.av)).all (·.1.isSome)=true from f.1,show(backTo pos (starEach [] L.av)).all (λx=>!x.1)=true from rfl]
   simp only[Bool.true_and,decide_eq_true_eq,k7];refine df (Nat.add_le_add (aV (Nat.le_of_eq (Nat.zero_add _)) f.2.2) (?_:_<=1)) (by decide)
   split
   .exact fw _
   .exact dR _
  congr 1;funext ov;congr 1;funext _
  unfold methodCall calleeOf;refine B xa<|B hp ?_
  rfl
noncomputable abbrev vh(ap:Pos):Arguments:=⟨[],[⟨PS "lit",none,ap⟩],none,[],[],none,[]⟩
noncomputable abbrev ti(np yp cp:Pos):Expr:=.Call (.Name (PS "abs") np) [.Name (PS "lit") yp] [] cp
def CI(sc:Scope):Prop:=Q4
 (sc.names=[(PS "lit",.local),(PS "abs",.globalImplicit)])
 (sc.kind=.function)
 (sc.isGenerator=false)
 (sc.isCoroutine=false)
theorem ae5(z:FC sc a=true):CI sc/\a.line=700/\a.col=35:=by
 haveI b:=gK z;haveI c:=gK b.2;haveI d:=gK c.2;haveI e:=gK d.2;haveI f:=gK e.2;exact aS ⟨bq b.1,bq c.1,(lT _).mp d.1,(lT _).mp e.1⟩ (bq f.1) (bq f.2)
noncomputable def bM.none(ck:o7 g)(kd:Kd)(aa:Around)(a:aa.handled=none)(b:aa.depth+3*0+2<=800)(c:aa.units+30*0+20<=8000):bM g:=⟨λY Y Y Y=>False,aa,kd,0,ck,a,b,c,λY Y Y Y Y Y Y Y Y Y z=>z.elim⟩
theorem ae6{b:bM g}(z:CI sc)(N:1<=b.k)(hc:A c=some .code)(hr:nV b.k A')(mj:mX b.C (q.bK .X) .mn E ks A)(hx:ex fq=some (kla_obj nm tj (vh ap) (ti np R W) sc [] pm c uk)):CH g A' L q A (.ref fq) E ks ex:=λ{i mu s v k cv} hP S d j r=>by
 refine az ((vg mj).2 i v k d j).1 λn w=>?_;obtain⟨rfl,rfl⟩:=w;refine r.iD rfl λt=>az (S.5 _ _ hc) λco w=>?_;haveI ho:=(S.7 _ _ (hP _ _ hx)).1;haveI xU:A'.depth<recursionLimit:=df (aV (jK _ _) hr.2.1) (show 800<recursionLimit by decide)
 haveI xQ:=g.vo.keeps λb o e=>S.2 b o (L.dM b o e);haveI u:s.heap.CodeRec (.ref c) tj:=by
  obtain⟨c1,c2⟩:=w;cases c2 with
  |code _ E t _ cd cq=>exact fh c _ E t (cg rfl c1 cd cq)
 refine wpAny_call (kla_callFunE xU ho rfl z.4 z.3 rfl u ?_);refine B (show bindArgs (kla_fn nm tj (vh ap) (ti np R W) sc [] pm (.ref c) uk) ⟨[.int n t],[]⟩=pure [(PS "lit",.int n t)]from rfl) ?_;haveI G:∀{x k},sc.names.lookup x=some k->k=.local\/k=.globalImplicit:=λ{x k} e=>by
  haveI m:=ji e;rw[z.1]at m;exact(dW.mp m).elim (λm=>.inl (aP Prod.snd m)) λm=>.inr (aP Prod.snd (cL.mp m))
 have no:∀{x k} {P:Prop},sc.names.lookup x=some k->k≠.local->k≠.globalImplicit->P:=λe n1 n2=>(G e).elim (λh=>absurd h n1) λh=>absurd h n2;refine dX (wpAny_newFunctionEnv (λy I=>by
  haveI m:=I;rw[z.1]at m;refine(dW.mp m).elim (λm=>?_) λm=>?_
  .rw[m];decide
  .rw[cL.mp m];decide) (λy I=>by
  refine B (cL.mp I) ?_;rw[z.1];rfl) (λjH xR sY=>?_) z.2)
 have keep:=λb o e=>sY.extBut b o (Nat.ne_of_lt (Heap.lt_size e)) (Heap.get?_push_of_some _ e);refine⟨xQ.keeps keep,kla_codeExpr ?_⟩;haveI main:∀{av:Env} {tk},av.scope=sc->(j:av.globals=mainGlobals)->(J:av.builtins=builtinsNs)->av.locals=s.heap.objs.size->wpAny (model g.prog g.w) (A'.deeper av) (eval (ti np R W) av) (λv l=>TL s.heap l.heap/\aN L ⟨q.m0,mu,q.bK⟩ A l/\bH g l.heap (.int n.natAbs) v) jj {s with heap:=jH,toks:=tk}:=λ{av tk} d j J e4=>by
  have a:∀n,av.kindOf n=sc.names.lookup n:=λn=>by unfold Env.kindOf;exact B d rfl
  haveI ko:gP (mB sc) av:=⟨λx e=>(a x).trans e,λx e=>(a x).trans e,λx e=>e.imp (λe=>(a x).trans e) λe=>(a x).trans e,λx e=>e.elim (λe=>no e nofun nofun) λe=>no e nofun nofun,λe=>no e nofun nofun⟩
  haveI S2:=S.lo.wZ (q1:=⟨_,λY=>none,aH.set (λY=>none) .lit (.int n)⟩) (tk:=tk) (hL:=dR _) (k:=B d z.2) (gl:=j) (bu:=J) keep xR (λY Y e=>nn e) (.ja e4 λy v e=>by
   have e:aH.set (λY=>none) .lit (.int n) y=some v:=e;refine(Bm e).elim (λp=>?_) λp=>nn p.2
   .rw[p.1,p.2];refine⟨λY=>⟨.int n t,rfl,.int n t⟩,λhh=>hh.elim (λe=>no ((a _).symm.trans e) nofun nofun) λe=>no ((a _).symm.trans e) nofun nofun⟩)
  refine(Po (b:=bM.none b.ck (mB sc) (A'.deeper av) hr.1 (aV (Nat.add_le_add_left (Nat.mul_le_mul_left 3 N) _) hr.2.1) (aV (Nat.add_le_add_left (aV (by decide:23<=30*1) (Nat.mul_le_mul_left 30 N)) A'.units) hr.2.2)) (f:=.abs) (by show(sc.names.lookup (PS "abs")==_)=true;refine B z.1 ?_;rfl) rfl (BI (n:=.lit) (by show pO (mB sc) .lit=true;unfold pO mB;refine B z.1 ?_;rfl))).then (L:=S.lo.qX av _ (dR _) (B d z.2) j J) (Q:=λv Z=>v=.int n.natAbs/\Z=A) ko ⟨.int n,show(aH.set (λY=>none) Nm.lit (V.int n)) Nm.lit=some (V.int n)from bA rfl,rfl,rfl⟩ S2 λ{v cv Z l} w t S3 r=>?_
  refine gn λkG=>aU w λsV Ei=>?_;try clear w
  subst sV;haveI M:=Ei;haveI M:=M.symm;subst M;exact kG<|(aS ((S.sD S3).1) ((S.sD S3).2) r)
 exact wpAny_mono (main rfl rfl rfl rfl) (λY Y x=>x) λY Y x=>x.elim
theorem ah4(A:H)(n:c≠a)(x y:bN):(A.set a x).set c y=(A.set c y).set a x:=funext λz=>by
 unfold H.set;by_cases b:z=c
 .rw[bA b,bx (b▸n),bA b]
 .rw[bx b,bx b]
theorem Ow{s:Shared}(z:CI sc)(m:1<=b.k)(g:aN L q f {s with heap:=d,toks:=tk})(n:f c=some .code)(p:R f)(r:∀a o,A a=some o->(∀t,o≠.tab t)->f a=some o)(t:TL s.heap d):
 yX b L q .mn A s.heap R (.ref d.objs.size) {s with heap:=d.push (kla_obj nm tj (vh ap) (ti np i j) sc [] pm c l),toks:=tk}:=by
 haveI eC:=g.size;refine⟨d.objs.size,f,_,dF (λY=>none) d.objs.size (some (kla_obj nm tj (vh ap) (ti np i j) sc [] pm c l)),_,p,λh=>nf h,r,t.trans (.of (hX d _)),λa o e=>(dA (mr e eC.4)).trans e,
  (g.jS (hX d (kla_obj nm tj (vh ap) (ti np i j) sc [] pm c l))).oj eC (iY.nt rfl (by decide)) (mJ _ rfl),λa o e=>?_,λhr u v=>ae6 z m (u.resolve_right (λh=>nf h)▸n) hr v fC⟩
 by_cases y:a=d.objs.size
 .subst y;rw[fC]at e;exact fC.trans e
 .have e:=(dA y)▸e;exact nn e
theorem aeS{b:bM g}(v:1<=b.k)(X:b.kd (PS "%lam")=some .globalExplicit)(hs:FC sc i=true):t' b .mn (.Lambda (vh ap) (ti np yp cp) sc i):=λ{L q A R s} ko d S=>by
 refine br (ae5 hs) λz y C=>?_;haveI j:=ko.5 X;have G:closureFor sc L.av=pure []:=by unfold closureFor;refine B z.1 ?_;rfl
 have hC:=g.mn.keeps λb o e=>S.2 b o (L.dM b o e);have I:s.heap.BuiltinsAt g.mg gG:=by
  refine cF g.bmain λbm o J=>iM J λa1 a2 Z a4 a5 r=>?_;clear J;exact cE bm o (ee a1 a2 Z a4 (S.2 _ _ (L.dM _ _ a5)) r)
 refine kla_eval rfl<|B j.2<|Or.elim d (λd=>az d λc w=>az (S.5 _ _ w.1) λco t=>?_) λd=>az (S.5 _ _ d.1) λco t=>?_
 .haveI h:=t.1;haveI r:=t.2;cases r;exact kla_makeFunctionHit G L.qg S.T.g j.1 hC h trivial (by
   show(if((Bg.line:Int)==i.line&&(Bg.col:Int)==i.col)=true then _ else _)=_
   refine B y<|B C ?_;rfl) I λuk h' tk k AS=>Ow z v (S.jS k) w.2.1 w.2.2 (λY Y e Y=>e) (.of k)
 .refine aU t λh r=>?_;try clear t
  cases r;refine kla_makeFunction G L.qg S.T.g j.1 hC h trivial rfl (by decide) I λM uk h' tk l N oP P m=>gn λkG=>gz P λc2 oc E t Q=>eI Q λp u hd hv=>kG ?_
  clear Q;try clear P
  injection p with p;subst p
  have ne:=Nat.ne_of_gt (j_ (Heap.lt_size h) N);have f:=S.eC (oa s.heap N);haveI t1:=S.tl (λb o n Y=>l b o n) (S.vM d.1);haveI S1:=S.G9 (tk:=tk) d.1 (λb x n Y e=>l b x n e) (S.3.extBut l (cQ (S.6 _ _ d.1).2.1)) (m.trans (by
   refine B y<|B C ?_;rfl)) (.tab M) λY=>nofun
  haveI S2:=S1.zi ⟨(bx ne).trans f.1,f.2,f.3,f.4⟩ u (.code oc E t (Obj.isFreed_of_fields hd) hd hv) λY=>nofun
  haveI W:=d.2 M f.1;rw[ah4 A (cQ ne)]at W;exact Ow z v S2 (bA rfl) W (λa o e n=>(bx λq1=>gM f.1 (q1▸e)).trans ((bx λq2=>n _ (dH ((q2▸e).symm.trans d.1))).trans e)) t1
noncomputable def O6:Cl->List V->List V
 |.heap,_=>[.int gk]
 |_,E=>E
theorem bM.under(b:bM g)(C:Addr)(aY:List Value):nV b.k (b.aa.under (.builtin "type.__call__" ⟨.ref C::aY,[]⟩)):=
 ⟨b.hh,by have:=b.hd;have e:Code.weight (.builtin "type.__call__" ⟨.ref C::aY,[]⟩)=1:=by rfl
          show b.aa.depth+Code.weight (.builtin "type.__call__" ⟨.ref C::aY,[]⟩)+3*b.k<=800;lia,
   by have:=b.hu;have e:Code.cUnits (.builtin "type.__call__" ⟨.ref C::aY,[]⟩)=1:=by rfl
      show b.aa.units+Code.cUnits (.builtin "type.__call__" ⟨.ref C::aY,[]⟩)+30*b.k<=8000;lia⟩
theorem U0(c:Cl):(PS c.nm==("__debug__":PySem.Str))=false:=by cases c<;>decide+kernel
theorem afS(hf:f.cls.any (Cl.n9 c)=true)(hi:f.nm="__init__")(b:F3 c es=true)(len:E.length=es.length)(r:bX g h E aj):sf g h f (.ref p::O6 c E) (.ref p::aj):=by
 cases c with
 |heap=>
  have v0:=List.eq_nil_of_length_eq_zero (by rw[len,List.isEmpty_iff.mp b];rfl)
  rw[v0]at r⊢;have a:f=.m9:=by
   have:=aJ.mV (p:=λf=>!(f.cls.any (Cl.n9 .heap))||(f.nm !="__init__"||decide (f=.m9))) (by decide+kernel) f
   rw[hf,hi]at this;exact dQ this
  exact .inr ⟨a,_,rfl,by rw[r.jz (P:=λx=>x=[]) rfl]⟩
 |aO=>exact .inl ⟨λe=>by(rw[e]at hf;exact nf hf),.cons _ _ _ _ (.ref _) r⟩
 |cK=>exact .inl ⟨λe=>by(rw[e]at hf;exact nf hf),.cons _ _ _ _ (.ref _) r⟩
theorem agw(ha:Args b es ps)(k:iQ b.kd c.nm=true)(hf:f.cls.any (Cl.n9 c)=true)(hi:f.nm="__init__")(u:f≠.jZ)(l:F3 c es=true):bz b (.new c f es) (.Call (.Name (PS c.nm) np) ps [] pos):=λL q A Q s ko v S=>by
 have y:Es b.C es q.bK A λE A=>∀d p,A d=.none->A p=.none->d≠p->b.C f (.ref p::O6 c E) ((A.set d (.cM c [])).set p (.dB c d)) λr A=>r=.none/\Q (.ref p) A:=by clear k hf l;cases c<;>exact v
 have m:=b.ck.5 c f u hf;rw[hi]at m;refine Call_ (xi S ko k (U0 c) (b.ck.7 c) (wD (λh a7=>keeps_K (b.ck.12 c).2 h a7) ha ko y S λ{E aj R a} len z t S r=>wpAny_call ?_));haveI G:=S.size.1;haveI I:=(S.eC (oa a.heap (Nat.le_succ a.heap.objs.size))).1;have J:=S.push (tk:=a.toks) (.cM c [] [] 0 .nil λY h=>absurd h gh);haveI g:=J.push (tk:=a.toks) (.dB c a.heap.objs.size);haveI t3:=TL.of λb o e=>hX (a.heap.push (dictOf [] 0)) (instObj (gS c) a.heap.objs.size) b o (hX a.heap (dictOf [] 0) b o e);haveI M:(a.heap.push (dictOf [] 0)).objs.size=a.heap.objs.size+1:=Heap.size_push ..;dsimp only at g;rw[M]at g;obtain⟨i,ge,dr,tk,os⟩:=a;refine make_core (makes_of S.kn (b.ck.12 c).1) (looks_findIn S.kn m) (λX=>bind_fn S.kn X (bq (b.ck.6 f).1)) (.inl rfl)<|codeAny_mono (b.hC f _ _ _ L q _ (.ref (i.objs.size+1)::aj) _ (b.under _ _) (z _ _ G I (Nat.ne_of_lt (k5 _))) g (afS hf hi l len (r.b_ t3))) λN s5 j=>?_;cases N with
 |error e=>exact j.elim
 |ok fl=>cases fl with
  |ret W=>cases j with
   |mk x Z w P S5 n=>
    rw[w.1]at n;exact⟨by cases n;rfl,.at (t.trans (t3.trans P)) w.2 S5 (.ref _)⟩
  |_=>exact j.elim
def qN(b:bM g)(x:a7)(p:Expr):Prop:=Q3
 (bz b x p)
 (qw p=true->ke b x p)
 (zM x=true->∃pe gens sc pos,p=.ListComp pe gens sc pos/\tV b x pe gens sc pos)
def Cs(b:bM g)(es:List a7)(ps:List Expr):Prop:=Q3
 (Args b es ps)
 (Al (bz b) es ps)
 (ps.all qw=true->Al (ke b) es ps)
theorem qN.pl(h:bz b x p)(hp:∀av a,isTrue p av a=(do let v<-a;standAt p.pos;holding [v] (truthy v)))(c:zM x=false):qN b x p:=⟨h,λY=>Pm h hp,λy=>by rw[c]at y;exact nf y⟩
theorem qN.dw(h:pj b x l o r)(hm:behindInMarks o r=false)(a:zM x=false):qN b x (.Compare l [o] [r] pos):=⟨agz h hm,λY=>af' h hm,λy=>by rw[a]at y;exact nf y⟩
theorem qN.J8(k:tV b x pe gens sc pos):qN b x (.ListComp pe gens sc pos):=⟨Gg k,λY=>Pm (Gg k) λY Y=>rfl,λY=>fh _ _ _ _ (fF rfl k)⟩
theorem F7(h:(o== .In||o== .NotIn)=false):behindInMarks o r=false:=by
 cases r with
 |Set es k p=>show(k==0&&(o== .In||o== .NotIn)&&_)=false;simp only[h,Bool.and_false,Bool.false_and]
 |_=>rfl
theorem DS(ne:Bool):behindInMarks (p_ ne) r=false:=F7 (by cases ne<;>rfl)
theorem N6(ne:Bool):behindInMarks (x7 ne) r=false:=F7 (by cases ne<;>rfl)
theorem Uo(op:vT):behindInMarks op.op r=false:=F7 (by cases op<;>rfl)
theorem Pq(a:1<=b.k)(z:Ba b.kd e k=true):t' b k (Od k e):=by
 cases k with
 |fn f=>exact aeQ (aL z) (Option.isNone_iff_eq_none.mp (aR z))
 |bm f=>exact aeP (aL z) (aR (aR z)) (bne_iff_ne.mp (aL (aR z)))
 |mn=>exact aeS a (bq (aL z)) (aR z)
theorem Oo(a:1<=b.k)(z:Ba b.kd (rJ e 0).value k=true):p7 b k bW (Fv k bW e):=by
 cases bW with
 |false=>exact .cC _ _ (Pq a z)
 |true=>exact .bW _ _ _ _ _ (Pq a z)
theorem Pp(z:Fi b.kd (es.length==1) (hd (jm es ps)) k=true)(y:Cs b es (jm es ps)):t9 b k es (Fh k (jm es ps) e):=by
 cases k with
 |eV=>exact aga z y.1
 |seq=>
  exact L1 (bq (aL z)) (λa n y=>by cases y.2 with|cons x _=>exact Pn n x) ((lT _).mp (aR z)) y
theorem FP(h:FO (mB sc) n=true):sc.names.lookup n=some .local:=bq h
theorem iT(x:a7):∀{b:bM g} {e:Expr},1<=b.k->wf b.kd x e=true->qN b x (bV x e):=by
 apply a7.rec (motive_1:=λx=>∀{b:bM g} {e:Expr},1<=b.k->wf b.kd x e=true->qN b x (bV x e)) (motive_2:=λes=>∀{b:bM g} {ps:List Expr},1<=b.k->mF b.kd es ps=true->Cs b es (jm es ps))
 case none=>exactλ{_ _} _ _=>.pl agx (λY Y=>rfl) rfl
 case bool=>exactλ_ {_ _} _ _=>.pl agg (λY Y=>rfl) rfl
 case int=>exactλ_ {_ _} _ _=>.pl agq (λY Y=>rfl) rfl
 case str=>exactλ_ {_ _} _ _=>.pl agF (λY Y=>rfl) rfl
 case dO=>exactλ_ _ {_ _} _ z=>.pl (ago (aL z) (bq (aR z))) (λY Y=>rfl) rfl
 case vB=>exactλ{_ _} _ z=>.pl (agC z) (λY Y=>rfl) rfl
 case var=>exactλ_ {_ _} _ z=>.pl (BI z) (λY Y=>rfl) rfl
 case aC=>exactλ_ _ i {_ _} h z=>.pl (agd (i h (aR z)).1 (aL z)) (λY Y=>rfl) rfl
 case aE=>exactλ_ i {_ _} h z=>.pl (Pr (i h (aR z)).1.3 (dQ (aL z))) (λY Y=>rfl) rfl
 case dj=>exactλ_ i {_ _} h z=>.pl (agt (i h (aR z)).1.3 (dQ (aL z))) (λY Y=>rfl) rfl
 case q9=>exactλ_ _ i {_ _} h z=>.pl (agk IZ (dQ (aL z)) (i h (aR z)).2 (i h (aR z)).1.1) (λY Y=>rfl) rfl
 case cJ=>exactλ_ _ _ i j {_ _} h z=>.pl (agf (i h (aL z)).1 (j h (aR z)).1) (λY Y=>rfl) rfl
 case lA=>exactλ_ _ i j {_ _} h z=>.pl (agj (i h (aL z)).1 (j h (aR z)).1) (λY Y=>rfl) rfl
 case qJ=>exactλ_ _ i j {_ _} h z=>.pl (agG (i h (aL z)).1 (j h (aR z)).1) (λY Y=>rfl) rfl
 case neg=>exactλ_ i {_ _} h z=>.pl (agv (i h z).1) (λY Y=>rfl) rfl
 case not=>exactλ_ i {_ _} h z=>⟨agy (i h (aR z)).1,λY=>af9 ((i h (aR z)).2 (aL z)),λy=>nf y⟩
 case and=>exactλes i {_ _} h z=>have y:=aR z;have w:=i h (aR y);⟨agb w.2 ((lT _).mp (aL z)),λY=>af7 (w.3 (aL y)),λy=>nf y⟩
 case or=>exactλes i {_ _} h z=>have y:=aR z;have w:=i h (aR y);⟨agA w.2 ((lT _).mp (aL z)),λY=>af_ (w.3 (aL y)),λy=>nf y⟩
 case dw=>exactλ_ _ _ i j {_ _} h z=>.dw (agI (i h (aL z)).1 (j h (aR z)).1) (Uo _) rfl
 case qU=>exactλ_ _ _ i j k {_ _} h z=>have y:=aR z;haveI w:=aR y;haveI m:=bq (aL z);⟨agh (i h (aL y)).1 (j h (aL w)).1 (k h (aR w)).1 m,λY=>af8 (i h (aL y)).1 (j h (aL w)).1 (k h (aR w)).1 m,λy=>nf y⟩
 case eq=>exactλ_ _ _ i j {_ _} h z=>.dw (agJ (i h (aL z)).1 (j h (aR z)).1) (DS _) rfl
 case jf=>exactλ_ _ i {_ _} h z=>.dw (agL (i h z).1) (DS _) rfl
 case p9=>exactλ_ _ _ i j {_ _} h z=>.dw (agK (i h (aL z)).1 (j h (aR z)).1) (DS _) rfl
 case hV=>exactλ_ _ i {_ _} h z=>.dw (agO (i h z).1) (N6 _) rfl
 case rH=>exactλ_ _ _ i {_ _} h z=>.dw (agN (i h z).1) (N6 _) rfl
 case jh=>exactλ_ _ _ i j {_ _} h z=>haveI y:=aR z;.dw (agM (i h (aL y)).1 (j h (aR y)).1) (bq (aL z)) rfl
 case ite=>exactλ_ _ _ i j k {_ _} h z=>have y:=aR z;haveI w:=aR y;⟨agr ((i h (aL y)).2 (aL z)) (j h (aL w)).1 (k h (aR w)).1,λy=>nf y,λy=>nf y⟩
 case aQ=>exactλ_ _ i j {_ _} h z=>have y:=aR z;.pl (agp (i h (aL y)).1 (j h (aR y)).1 (aL z)) (λY Y=>rfl) rfl
 case rn=>exactλ_ _ i j {_ _} h z=>have y:=aR z;.pl (agn (i h (aL y)).1 (j h (aR y)).1 (aL z)) (λY Y=>rfl) rfl
 case nS=>exactλ_ _ i j {_ _} h z=>.pl (agH (i h (aL z)).1 (j h (aR z)).1) (λY Y=>rfl) rfl
 case «from»=>exactλ_ _ i j {_ _} h z=>.pl (agm (i h (aL z)).1 (j h (aR z)).1) (λY Y=>rfl) rfl
 case b1=>exactλ_ _ i {_ _} h z=>haveI y:=aR z;.pl (Po (aL z) (aL y) (i h (aR y)).1) (λY Y=>rfl) rfl
 case b2=>exactλ_ _ _ i j {_ _} h z=>haveI y:=aR z;haveI w:=aR y;haveI u:=aR w;.pl (age (aL z) (aL y) (aL w) (i h (aL u)).1 (j h (aR u)).1) (λY Y=>rfl) rfl
 case rM=>exactλ_ i {_ _} h z=>haveI y:=aR z;.pl (ags (aL z) (aL y) (i h (aR y)).1) (λY Y=>rfl) rfl
 case sorted=>exactλ_ _ _ i {_ _} h z=>haveI y:=aR z;haveI w:=aR y;.pl (agE (aL z) (aL w) (i h (aR w)).1 (Oo h (aL y))) (λY Y=>rfl) rfl
 case c8=>exactλ_ _ i j {_ _} h z=>have y:=aR z;have w:=aR y;have u:=aR w;.pl (agc (i h (aL w)).1 (j h (aR u)).1 (aL y) (aL u) (aL z)) (λY Y=>rfl) rfl
 case ext=>exactλ_ _ i j {_ _} h z=>have y:=aR z;have w:=aR y;have u:=aR w;.pl (agl (i h (aL w)).1 (j h (aR u)).1 (aL y) (aL u) (aL z)) (λY Y=>rfl) rfl
 case qz=>exactλ_ i {_ _} h z=>haveI y:=aR z;.pl (agB (i h (aR y)).1 (aL y) (aL z)) (λY Y=>rfl) rfl
 case vG=>exactλ_ _ _ i {_ _} h z=>have y:=aR z;haveI w:=aR y;.pl (agD (i h (aL w)).1 (aL y) (aL z) (Oo h (aR w))) (λY Y=>rfl) rfl
 case call=>exactλ_ _ i {_ _} h z=>haveI y:=aR z;.pl (agi (i h (aR y)).1 (aL z) (aL y)) (λY Y=>rfl) rfl
 case aZ=>exactλ_ _ _ _ i j {_ _} h z=>haveI y:=aR z;haveI w:=aR y;haveI u:=aR w;haveI t:=aR u;haveI r:=aR t;.pl (agu (i h (aL r)).1 (aL y) (j h (aR r)).1 (aL u) (aL z) (dQ (aL t)) (bne_iff_ne.mp (aL w))) (λY Y=>rfl) rfl
 case new=>exactλ_ _ _ i {_ _} h z=>haveI y:=aR z;haveI w:=aR y;haveI u:=aR w;haveI t:=aR u;.pl (agw (i h (aR t)).1 (aL z) (aL y) (bq (aL w)) (bne_iff_ne.mp (aL u)) (aL t)) (λY Y=>rfl) rfl
 case vL=>exactλ_ _ {_ _} _ z=>nf z
 case comp=>exactλ_ _ _ _ _ _ i j k {b e} h z=>haveI y:=aR z;haveI w:=aR y;haveI u:=aR w;haveI t:=aR u;haveI r:=aR t;have a:=G0 (aL y);.J8 (WC (aL z) a.1 (λx m=>FP (a.2.1 x m)) (Pp (aL w) (j h (aL u))) ((k (b:=b.rG (lJ e)) h (aL r)).3 (aL t)) (i (b:=b.rG (lJ e)) h (aR r)).1)
 case sI=>exactλ_ _ _ _ _ i j k {b e} h z=>haveI y:=aR z;haveI w:=aR y;have u:=aR w;have t:=aR u;haveI r:=aR t;have a:=G0 (e:=e) (aL y);.J8 (WD (λq=>(jb.mp a.2.2).1 (cL.mpr q)) (aL z) (FP (a.2.1 _ (bE ..))) (FP (a.2.1 _ (cP _ (jo _)))) (Pn ((lT _).mp (aL w)) (j h (aL t)).1) ((lT _).mp (aL u)) (k (b:=b.rG (lJ e)) h (aL r)).1 (i (b:=b.rG (lJ e)) h (aR r)).1)
 case nil=>exactλ{_ _} _ _=>⟨.nil,.nil,λY=>.nil⟩
 case cons=>exactλ_ _ i j {_ _} h z=>have y:=aR z;have w:=i h (aL y);have u:=j h (aR y);⟨.cons (aL z) w.1 u.1,.cons w.1 u.2,λm=>.cons (w.2 (aL m)) (u.3 (aR m))⟩
theorem Pu:∀(es:List a7) {b:bM g} {ps:List Expr},1<=b.k->mF b.kd es ps=true->Cs b es (jm es ps)
 |[],_,_,_,_=>⟨.nil,.nil,λY=>.nil⟩
 |x::es,_,_,h,z=>have y:=aR z;have w:=iT x h (aL y);have u:=Pu es h (aR y);⟨.cons (aL z) w.1 u.1,.cons w.1 u.2,λm=>.cons (w.2 (aL m)) (u.3 (aR m))⟩
theorem agP(x:St):∀{b:bM g} {s:Stmt},1<=b.k->Ha b.kd x s=true->je b x (G4 x s):=by
 apply St.rec (motive_1:=λx=>∀{b:bM g} {s:Stmt},1<=b.k->Ha b.kd x s=true->je b x (G4 x s)) (motive_2:=λes=>∀{b:bM g} {ss:List Stmt},1<=b.k->nT b.kd es ss=true->lX b es (m5 es ss))
 case expr=>exactλx {_ _} h z=>agV (iT x h (aR z)).1 (aL z)
 case bP=>
  intro n x b s h z;have y:=aR z;haveI w:=iT x h (aR y);haveI e:=(Bool.or_eq_true _ _).mp (aL y);refine e.elim (λc=>gz (w.3 c) λpe gens sc pos v=>?_) λc=>agQ (aL z) c w.1;show je b (.bP n x) (.Assign [.Name n.S (cH s 1).pos] (bV x (cH s 0)) s.pos);exact B v.1 (R8 (aL z) v.2)
 case jE=>exactλxs x {_ _} h z=>haveI y:=aR z;haveI w:=aR y;haveI u:=aR w;agR (aL z) (aL y) F0 (iI.mp (aL w)) (dQ (aL u)) (iT x h (aR u)).1
 case cV=>exactλo n x {_ _} h z=>ag1 (iT o h (aL z)).1 (iT x h (aR z)).1
 case fK=>exactλo i x {_ _} h z=>have y:=aR z;ag3 (iT o h (aL z)).1 (iT i h (aL y)).1 (iT x h (aR y)).1
 case qE=>exactλo i x {_ _} h z=>have y:=aR z;ag5 (iT o h (aL z)).1 (iT i h (aL y)).1 (iT x h (aR y)).1
 case rX=>exactλo i j a c {_ _} h z=>haveI y:=aR z;haveI w:=aR y;haveI u:=aR w;haveI t:=aR u;haveI r:=aR t;haveI v:=aR r;ag4 (aL z) (aL y) (iT o h (aL w)).1 (iT i h (aL u)).1 (iT o h (aL t)).1 (iT j h (aL r)).1 (iT a h (aL v)).1 (iT c h (aR v)).1
 case tK=>exactλo n m a c {_ _} h z=>have y:=aR z;have w:=aR y;haveI u:=aR w;haveI t:=aR u;ag2 (aL z) (aL y) (iT o h (aL w)).1 (iT o h (aL u)).1 (iT a h (aL t)).1 (iT c h (aR t)).1
 case ite=>exactλc _ _ i j {_ _} h z=>haveI y:=aR z;haveI w:=aR y;agX ((iT c h (aL y)).2 (aL z)) (i h (aL w)) (j h (aR w))
 case kY=>exactλc _ i {_ _} h z=>haveI y:=aR z;ag6 ((iT c h (aL y)).2 (aL z)) (i h (aR y))
 case «for»=>exactλaE xs k it t i {_ _} h z=>haveI y:=aR z;haveI w:=aR y;haveI d:=G0 (aL z);agW d.1 d.2.1 (Pp (aL y) (Pu it h (aL w))) (i h (aR w))
 case ret=>
  intro x b s h z;haveI z:cond (uG s).isEmpty (Pa x) (wf b.kd x (cH s 0))=true:=z;show je b (.ret x) (.Return (cond (uG s).isEmpty none (some (bV x (cH s 0)))) s.pos);cases c:(uG s).isEmpty with
  |true=>
   replace z:=c▸z;cases x<;>first|exact ag0|exact nf z
  |false=>rw[c]at z;exact agZ (iT x h z).1
 case brk=>exactλ{_ _} _ _=>agS
 case cont=>exactλ{_ _} _ _=>agT
 case n8=>exactλ{_ _} _ _=>agU
 case vs=>exactλ{_ _} _ _=>agY
 case nil=>exactλ{_ _} _ _=>Py
 case cons=>exactλ_ _ i j {_ _} h z=>Px (i h (aL z)) (j h (aR z))
theorem Gi:∀(es:List St) {b:bM g} {ss:List Stmt},1<=b.k->nT b.kd es ss=true->lX b es (m5 es ss)
 |[],_,_,_,_=>Py
 |x::es,_,_,h,z=>Px (agP x h (aL z)) (Gi es h (aR z))
inductive vX(g:Gd):Prop
 |mk (oc:Value) (od:Option Addr) (vr:Array (Option Value)) (name qual:PySem.Str) (params:Arguments) (s0:Stmt) (aY:List Stmt) (sc:Scope) (dV kV doc pm:Value) (an:Option Addr) (ct:Value) (q5 cc D:Addr) (ar:Arg) (tH:List St)
  (Y:g.K.lookup (fi .dN)=some ⟨oc,od,.func (ksFn name qual params (s0::aY) sc dV kV doc pm an (.ref q5) ct cc),vr⟩) (Y:codeIn g.K (.ref q5) qual=true) (Y:s0=QV s0) (Y:rR (cH s0 0)=true) (Y:(eQ .dN).2=.expr (.vL [.var .jy])::tH) (Y:aY=m5 tH aY) (Y:nT (jx .dN sc) tH aY=true)
  (Y:sc.kind=.function) (Y:sc.isCoroutine=false) (Y:sc.isGenerator=false)
  (Y:∀(s:Shared) a b c,BindsTo s (ksFn name qual params (s0::aY) sc dV kV doc pm an (.ref q5) ct cc) ⟨[a,b,c],[]⟩ (kK [.X,.dK,.jy] [a,b,c]))
  (Y:∀p∈sc.names,p.2≠.cell) (Y:∀x∈[Nm.X,.dK,.jy],sc.names.lookup x.S=some .local) (Y:∀p∈sc.names,p.2=.free->p.1=PS "__class__")
  (Y:(params.posonlyargs++params.args).head?=some ar) (Y:ar.arg=Nm.X.S) (Y:sc.names.lookup (PS "super")=some .globalImplicit) (Y:sc.names.lookup (PS "__class__")=some .free)
  (DA:Value) (DD:Option Addr) (E:Array Value) (DB:Array (Option Value)) (file:PySem.Str) (tf:Tok) (_:g.K.lookup q5=some ⟨DA,DD,.fields E,DB⟩) (_:E[2]? =some (.str file tf)) (_:((g.prog.main.file:PySem.Str)==file)=true)
  (cl:Value) (DG:Option Addr) (DJ:Array (Option Value)) (zD:ClassData) (_:g.K.lookup cc=some ⟨cl,DG,.cell (some (.ref D)),DJ⟩) (_:clsIn g.K D=some zD) (_:mroIn g.K (gS .aO) (.ref D)=some true) (_:nsIn g.K mainGlobals "super"=some none)
  (Y:(g.prog.main.scope.names.lookup (PS "super")).isSome=false) (Y:ks_superIn g.K (gS .aO) D "__init__"=some (some (.ref (fi .jZ)))) (Y:typeIn g.K (.ref (fi .jZ))=some (.type "function")) (Y:nsIn g.K cStatics "thirdparty.any"=some none):vX g
theorem aiZ{b:bM g}{L:bQ g}
 (u:aN L q A s) (G:L.av=ksEnv qn sc L.ae f (.ref q5) cc) (ko:gP b.kd L.av)
 (hf:g.K.lookup f=some ⟨oc,od,.func fd,vr⟩) (rD:(fd.params.posonlyargs++fd.params.args).head?=some ar) (I:ar.arg=Nm.X.S) (hv:q.m0 Nm.X.S=some (.ref x)) (J:A x=some (.dB .aO d)) (M:A d=some (.cM .aO aF))
 (EI:g.K.lookup q5=some ⟨DA,DD,.fields E,DB⟩) (E9:E[2]? =some (.str file tf)) (EM:((g.prog.main.file:PySem.Str)==file)=true) (AL:g.K.lookup cc=some ⟨cl,DG,.cell (some (.ref D)),DJ⟩) (hD:clsIn g.K D=some zD)
 (E1:mroIn g.K (gS .aO) (.ref D)=some true) (E5:nsIn g.K mainGlobals "super"=some none) (mj:sc.names.lookup (PS "super")=some .globalImplicit) (EO:sc.names.lookup (PS "__class__")=some .free) (pM:sc.names.lookup Nm.X.S=some .local) (hk:sc.kind=.function)
 (E7:(g.prog.main.scope.names.lookup (PS "super")).isSome=false) (hm:ks_superIn g.K (gS .aO) D "__init__"=some (some (.ref (fi .jZ)))) (E8:typeIn g.K (.ref (fi .jZ))=some (.type "function")) (E6:nsIn g.K cStatics "thirdparty.any"=some none)
 (hl:rR e=true) (hh:pO b.kd .jy=true) (c:q.bK .jy=some v) (hE:b.C .jZ [.ref x,v] A Q):
 _root_.PySem.wpAt (model g.prog g.w) b.aa (.func body L.av) (eval (QU e) L.av) (eD L q s.heap Q) jj s:=by
 haveI S:=u;refine S.dB J M λes n ak kr aj'=>ks_wpAt_MethodCall (pl:=do return (<-importBound (.Call (.Name (PS "super") (aG (aG (aG e 0) 0) 0).pos) [] [] (aG (aG e 0) 0).pos) L.av).getD true) ?_ ?_
 .refine B G<|ks_node S.fr g.a7 (S.mq []) g.T hf rD (I▸hv) ak EI E9 EM AL hD E1 E5 (by decide+kernel) mj EO (I▸pM) hk E7 (by decide+kernel) λso h' i N akm=>aT G ?_
  haveI k1:=S.de i N λp hp=>cP _ hp;haveI S1:=S.step (tk:=s.toks) (λb o n e=>k1 b o gh n e) i.ns;refine S1.dB J M λsQ n' I' Y Y=>ks_method i g.a7 N (bE ..) I' E6 hm E8 (by decide+kernel) λR h2 W Z j=>?_
  have k2:=S.de W Z λp hp=>cP _ (cP _ hp);haveI S2:=S.step (tk:=s.toks+1) (λb o n e=>k2 b o gh n e) W.ns;haveI nn:=Z _ (bE ..);have eC:=S.eC (S.Bk nn.2 λp hp=>j p (cP _ hp));haveI S3:=S2.oj eC (iY.nt rfl (by decide)) nn.1
  haveI t3:=S.oY λb o n e=>k2 b o gh n e;haveI hn:fI (.Name (PS "hook") (aG e 1).pos)=true:=rfl;haveI ha:Args b [.var .jy] [.Name (PS "hook") (aG e 1).pos]:=.cons hn (BI hh) .nil;haveI w:=ha.3 L ⟨q.m0,dF q.mu R (some (methodObj (.ref (fi .jZ)) (.ref x))),q.bK⟩ A (λus k=>b.C .jZ (.ref x::us) k Q) _ e.pos ko ⟨v,c,hE⟩ S3;simp only[vK hn]at w⊢;refine callWith_of (P:=MethP g.K R (fi .jZ) (.ref x)) rfl (λh a7=>keeps_M (b.ck.6 .jZ).2.1 h a7) (evalArgs_plain (dD w λ{aj s'} r=>r.rec λus k z t S r=>?_));haveI g4:=(S.7 _ _ fC).1;refine⟨⟨g4,S.kn⟩,wpAny_call (method_call g4 (codeAny_mono (b.hC .jZ _ k Q L _ s' (.ref x::aj) b.aa b.Qh z.2 S (.inl ⟨(λe=>by cases e),.cons _ _ _ _ (.ref x) r⟩)) λrr s5 l=>?_))⟩
  cases rr with
  |error e=>exact l.elim
  |ok fl=>cases fl with
   |ret v5=>cases l with
    |mk y Rv w5 t5 S5 r5=>
     haveI tt:=t3.trans (t.trans t5);exact⟨y,Rv,w5,tt,aN.D9 u.4 S5 tt λa o e=>(dA (mr e eC.4)).trans e,r5⟩
   |_=>exact l.elim
 .show(do
   let ov<-attributeBase (.Call (.Name (PS "super") (aG (aG (aG e 0) 0) 0).pos) [] [] (aG (aG e 0) 0).pos) (PS "__init__") L.av (eval (.Call (.Name (PS "super") (aG (aG (aG e 0) 0) 0).pos) [] [] (aG (aG e 0) 0).pos) L.av)
   standAt (aG e 0).pos.atName
   methodCall (.Call (.Name (PS "super") (aG (aG (aG e 0) 0) 0).pos) [] [] (aG (aG e 0) 0).pos) (PS "__init__") (aG e 0).pos e.pos L.av ov (1+0) (backTo e.pos (starEach [.Name (PS "hook") (aG e 1).pos] L.av)) [])=_
  haveI m:methodCallPos true (.Call (.Name (PS "super") (aG (aG (aG e 0) 0) 0).pos) [] [] (aG (aG e 0) 0).pos) L.av (aG e 0).pos e.pos=pure e.pos:=by unfold methodCallPos;refine B (show((aG e 0).pos.endLine==e.pos.line)=true from hl) ?_;rfl
  congr 1;funext ov;congr 1;funext _
  unfold methodCall calleeOf;haveI xa:methodCallForm (1+0) (backTo e.pos (starEach [.Name (PS "hook") (aG e 1).pos] L.av)) []=true:=rfl;refine B xa<|B m ?_
  rfl
theorem Uu{L:bQ g}(ck:o7 g)(M:sg g (aA k) (k+1))(ir:vX g)(hr:nV (k+2) aa)(AJ:aA (k+1) .dN E A Q)(S:aN L q A s)(ra:sf g s.heap .dN E aj):
 codeAny (model g.prog g.w) aa (.call (.ref (fi .dN)) ⟨aj,[]⟩) (λr N=>match r with|.ok (.ret v)=>eD L q s.heap Q v N|_=>False) s:=by
 simp only[Ur]at AJ;obtain⟨l,C,hS⟩:=AJ;cases ir with
 |mk oc od vr name qual params s0 aY sc dV kV doc pm an ct q5 P D ar R hK AK W Z adt aea adw G EG EN EF AL ER adL rD uS mj EO DA DD ajY DB file tf EI E9 EM cl DG DJ zD adv hD E1 E5 E7 hm E8 E6=>
 rw[adt]at hS;have u:=(ra.resolve_right λh=>absurd h.1 (by decide)).2
 obtain⟨⟨x,d,aF,hx,e1,e2,v,hv,hE⟩⟩:=And.intro hS trivial;haveI a7:=S.kn;haveI xQ:=g.vo.keeps λb o e=>S.2 b o (L.dM b o e);haveI xU:aa.depth<recursionLimit:=by haveI:=hr.2.1;unfold recursionLimit;lia
 haveI oO:=u.len.symm.trans (tL C).symm;clear ra;revert u;refine L3 oO λa b c=>?_;intro u;refine codeAny_call_function xU (a7 _ _ hK) rfl EG EN rfl (codeRec_of a7 AK) (EF s a b c _ _ _ _ ?_);haveI nm:∀{y:PySem.Str×Value},y∈kK [.X,.dK,.jy] [a,b,c]->∃z∈[Nm.X,.dK,.jy],z.S=y.1:=λi=>Dr (List.mem_map_of_mem i);refine wpAny_newFunctionEnv AL (λy i=>az (nm i) λz w=>w.2▸ER z w.1) (λh1 xR sY=>?_) G;have keep:=λb o e=>sY.extBut b o (Nat.ne_of_lt (Heap.lt_size e)) (Heap.get?_push_of_some _ e);refine⟨xQ.keeps keep,?_⟩;have I:∀x,sc.names.lookup x≠some .cell:=λx e=>AL _ (ji e) rfl;have fc:∀y,sc.names.lookup y=some .free->y=PS "__class__":=λy e=>adL _ (ji e) rfl;have nf:∀y:Nm,sc.names.lookup y.S≠some .free:=λy e=>absurd (fc _ e) (bne_iff_ne.mp (Nm.mV (p:=λy=>y.S !=PS "__class__") (by decide+kernel) y))
 haveI main:∀{av:Env} {tk},av=ksEnv qual sc s.heap.objs.size (fi .dN) (.ref q5) P->codeAny (model g.prog g.w) aa (.func (s0::aY) av) (λr N=>match r with|.ok (.ret v)=>eD L q s.heap Q v N|_=>False) {s with heap:=h1,toks:=tk}:=λ{av tk} he=>by
  have g1:av.scope=sc:=by rw[he]
  have g2:av.globals=mainGlobals:=by rw[he]
  have g3:av.builtins=builtinsNs:=by rw[he]
  have g4:av.locals=s.heap.objs.size:=by rw[he]
  haveI g5:av.cells=[(PS "__class__",P)]:=by rw[he]
  have lH:∀n,av.kindOf n=sc.names.lookup n:=λn=>by unfold Env.kindOf;exact B g1 rfl
  have oN:av.scope.kind=.function:=B g1 G;haveI S1:=S.lo.wZ (q1:=⟨_,λY=>none,l⟩) (tk:=tk) (hL:=dR _) (k:=oN) (gl:=g2) (bu:=g3) keep xR (λY Y e=>nn e) (.ja g4 λy v e=>by
   by_cases i:y∈[Nm.X,.dK,.jy]
   .refine az (Dq av.kindOf (m:=λY=>none) (cm:=λY=>none) (by decide+kernel) u C i e) λcv w=>⟨λY=>⟨cv,w.2.2.2,w.1.b_ (.of keep)⟩,λn=>n.elim (λn=>absurd ((lH _).symm.trans n) (I _)) λn=>absurd ((lH _).symm.trans n) (nf y)⟩
   .exact nomatch (vF C i).symm.trans e)
  have fn:jO (jx .dN sc) (S.lo.qX av s.heap.objs.size (dR _) oN g2 g3) λY=>none:=
   ⟨Oa g1 (λy i=>i.elim (λi=>absurd i (I _)) λi=>⟨P,B (fc _ i) ((aP (List.lookup _) g5).trans rfl)⟩) λe=>absurd e (by decide),g4,λy=>(lH y.S).trans (qf _ sc y).symm,λy i=>absurd ((qf _ sc y).symm.trans i) (I _),λy z c i=>absurd ((qf _ sc y).symm.trans i) (I _),λy e=>nf y ((qf _ sc y).symm.trans e)⟩
  have EX:=hr.deeper av;haveI hb:lX (bM.of ck M (jx .dN sc) EX) R aY:=by
   haveI z:=Gi R (b:=bM.of ck M (jx .dN sc) EX) (Nat.le_add_left 1 k) adw;simp only[<-aea]at z;exact z
  haveI h0:=aP (exec · av) W
  haveI hh:pO (jx .dN sc) .jy=true:=by
   unfold pO;rw[qf,ER .jy (by decide)];rfl
  refine ks_codeAny_funcAt (ks_wpAt_execs_cons ?_);refine B h0<|ks_wpAt_Expr_any (ks_wpAt_mono (aiZ (b:=bM.of ck M (jx .dN sc) EX) (Q:=λY A=>Ss (aA k) R l A λfl Y A=>Q fl.val A) S1 he fn.1 hK rD uS ?_ e1 e2 EI E9 EM adv hD E1 E5 mj EO (ER .X (bE ..)) G E7 hm E8 E6 Z hh hv hE) (λcv s2 h2=>?_) λY Y y=>y.elim) (by unfold interactive;refine B g1<|B G ?_;rfl)
  .refine az (Dq av.kindOf (m:=λY=>none) (cm:=λY=>none) (by decide+kernel) u C (bE ..) hx) λcv w=>?_
   cases w.1;exact w.2.2.2
  .cases h2 with
   |mk v2 jM w2 t2 S2 r2=>
    refine wpAt_of_wpAny (wpAny_mono (hb (S.lo.qX av _ (dR _) oN g2 g3) ⟨_,λY=>none,l⟩ jM _ s2 fn w2 S2) (λfl s3 r=>?_) λY Y y=>y.elim);cases r with
    |mk f q2 J z t _ _ S3 r=>
     have j:=S.sD S3;cases r with
     |next=>exact⟨.none,J,z,j.1,j.2,.none⟩
     |brk=>exact⟨.none,J,z,j.1,j.2,.none⟩
     |cont=>exact⟨.none,J,z,j.1,j.2,.none⟩
     |ret r=>exact⟨_,J,z,j.1,j.2,r⟩
 exact main rfl
theorem Ir(ck:o7 g)(hC:sg g (aA k) (k+1))(r:v8 (k+1) aa)(e:body=m5 (eQ f).2 body)(w:nT (jx f sc) (eQ f).2 body=true):lX (bM.of ck hC (jx f sc) r) (eQ f).2 body:=by
 haveI z:=Gi (eQ f).2 (b:=bM.of ck hC (jx f sc) r) (Nat.le_add_left 1 k) w;simp only[<-e]at z;exact z
theorem Dy(ck:o7 g)(fr:∀f:aJ,f≠.dN->tT g f)(a:vX g):∀k,sg g (aA k) (k+1)
 |0=>λY Y Y Y Y Y Y Y Y Y h=>h.elim
 |k+1=>λf E A Q L q s aj aa hr hC S b=>by
  haveI ih:=Dy ck fr a k;by_cases e:f=.dN
  .subst e;exact Uu ck ih a hr hC S b
  .exact Ut ck ih (fr f e) (Ir ck ih) hr hC S b
structure Fo where
 name:PySem.Str
 qual:PySem.Str
 body:List Stmt
 sc:Scope
 cl:List (PySem.Str×Addr)
 kV:Value
 doc:Value
 pm:Value
 an:Option Addr
 q6:Value
 ct:Value
noncomputable def bF(xs:List Nm)(as:List Arg)(aj:List Value):Fo->Sem (List (PySem.Str×Value)):=λo=>bindArgs (fnX o.name o.qual ⟨[],zo xs as,none,[],[],none,[]⟩ o.body o.sc o.cl .none o.kV o.doc o.pm o.an o.q6 o.ct) ⟨aj,[]⟩
noncomputable def bG(xs:List Nm)(aj:List Value):Fo->Sem (List (PySem.Str×Value)):=λY=>pure (kK xs aj)
def Cu(xs:List Nm):Prop:=∀{as aj},as.length=xs.length->aj.length=xs.length->bF xs as aj=bG xs aj
noncomputable def Cv:List (List Nm×List St)->Prop
 |[]=>True
 |p::l=>Cu p.1/\Cv l
theorem Ud:Cv J6:=by
 repeat' (first|exact trivial|refine And.intro (λ{as aj} h k=>?_) ?_)
 all_goals first
  |exact L1 h λY=>L1 k λY=>by kernel_rfl
  |exact L2 h λY Y=>L2 k λY Y=>by kernel_rfl
  |exact L3 h λY Y Y=>L3 k λY Y Y=>by kernel_rfl
  |exact L4 h λY Y Y Y=>L4 k λY Y Y Y=>by kernel_rfl
  |exact L5 h λY Y Y Y Y=>L5 k λY Y Y Y Y=>by kernel_rfl
theorem Ip:∀{l:List (List Nm×List St)},Cv l->∀n,n<l.length->Cu (nQ ([],[]) l n).1
 |_::_,h,0,_=>h.1
 |_::_,h,n+1,k=>Ip h.2 n (Nat.lt_of_succ_lt_succ k)
 |[],_,_,k=>absurd k (Nat.not_lt_zero _)
theorem Io(f:aJ):Cu (eQ f).1:=Ip Ud f.i.1 (j_ f.i.2 (by decide+kernel))
theorem b2{R:Prop}(h:(a&&b)=true)(k:a=true->b=true->R):R:=k (gK h).1 (gK h).2
theorem b3{R:Prop}(q:(a&&(b&&c))=true)(k:a=true->b=true->c=true->R):R:=b2 (gK q).2 (k (gK q).1)
theorem b5{R:Prop}(q:(a&&(b&&(c&&(d&&e))))=true)(k:a=true->b=true->c=true->d=true->e=true->R):R:=b3 (gK (gK q).2).2 (k (gK q).1 (gK (gK q).2).1)
theorem bn(h:(!a)=true):a=false:=(lT _).mp h
theorem bo{R:Prop}(h:(a||b)=true)(k:a=true->R)(l:b=true->R):R:=((Bool.or_eq_true _ _).mp h).elim k l
theorem bne[BEq c][LawfulBEq c]{a b:c}(h:(a !=b)=true):a≠b:=bne_iff_ne.mp h
theorem wh(h:zj p=true)(f:aJ):p f=true:=aJ.mV h f
theorem Bx(h:vp p=vp q)(x:aJ):p x=q x:=by
 haveI e:aJ.ofNat x.i.1=x:=by cases x with|mk i=>exact aP aJ.mk (Fin.ext (Nat.mod_eq_of_lt i.2))
 haveI:=List.map_inj_left.mp h x.i.1 (List.mem_range.mpr x.i.2);rwa[e]at this
noncomputable def Ab(K:Frag):Bool:=zj (ri K)
theorem afY(f:aJ):(eQ f).1.Nodup:=dQ (aJ.mV (p:=λf=>decide (eQ f).1.Nodup) (by decide+kernel) f)
theorem Ua(ha:fd.params.args.length=2)(a:s.heap.get? (oW fd.defaults)=some o)(hd:o.data=.seq #[.int gk t] k):
 BindsTo s (vq .m9 fd) ⟨[v],[]⟩ (kK [.X,.oS] [v,.int gk t]):=
 L2 (P:=λas=>BindsTo s (fnX fd.name fd.qualname ⟨[],zo [.X,.oS] as,none,[],[],none,fd.params.defaults⟩ (wy fd) fd.scope fd.closure (.ref (oW fd.defaults)) fd.kwdefaults fd.doc fd.pyModule fd.annotations (.ref (oW fd.code)) fd.closureTuple) ⟨[v],[]⟩ _) ha λY Y=>.of_defaults rfl a hd rfl rfl
theorem IK(h:JY fd f=true):((fd.closure=[]/\∀p∈fd.scope.names,p.2≠.free)\/((∀p∈fd.scope.names,p.2≠.cell)/\∀p∈fd.scope.names,p.2=.free->(fd.closure.lookup p.1).isSome=true))/\∀x:Nm,fd.scope.names.lookup x.S≠some .free:=
 bo (aR h) (λh=>have z:=λp hp=>bne (iI.mp (aR h) p hp);⟨.inl ⟨List.isEmpty_iff.mp (aL h),z⟩,λY e=>z _ (ji e) rfl⟩) λh=>have z:=iI.mp (aR h);⟨.inr ⟨λp hp=>bne (iI.mp (aL h) p hp),λp hp e=>bo (z p hp) (λh=>absurd e (bne h)) aL⟩,λx e=>bo (z _ (ji e)) (λh=>bne h rfl) λh=>bne (Nm.mV (p:=λy=>y.S !=x.S) (aR h) x) rfl⟩
theorem Ub(e:g.K.lookup (uW g.K)=EV g.K)(len:(hU g.K f).params.args.length=(eQ f).1.length)(a7:g.K.In hp)(b:E.length=(eQ f).1.length)(c:sf g hp f E aj):∃d,bX g hp E d/\∀s:Shared,s.heap=hp->BindsTo s (vq f (hU g.K f)) ⟨aj,[]⟩ (kK (eQ f).1 d):=by
 refine c.elim (λz=>⟨aj,z.2,λs Y=>.of_eq ?_⟩) λz=>az z.2 λa y=>?_
 .unfold vq DM;rw[beq_eq_false_iff_ne.mpr z.1];exact congrFun (Io f len (z.2.len.symm.trans b)) ⟨_,_,_,_,_,_,_,_,_,_,_⟩
 .rw[y.1,y.2];have hi:=z.1;clear b z y c;subst hi;exact⟨[.ref a,.int gk (NK g.K)],.cons _ _ _ _ (.ref a) (.cons _ _ _ _ (.int _ _) .nil),λs hs=>Ua len (by rw[hs];exact a7 _ _ e) rfl⟩
theorem Wv(c:Ab g.K=true)(aB:g.K.lookup (fi f)=Pd g.K f)(a:ny g.K f=yG f (ny g.K f))(d:g.K.lookup (uW g.K)=EV g.K)(EL:Ou g.K=(.ref oR,PS "_law_clause"))(hf:f≠.dN):tT g f:=by
 have ns:=beq_eq_false_iff_ne.mpr hf;have h:=aL (wh c f);have b:=bo (aR (wh c f)) (λq=>absurd (bq q) hf) id;have hw:=aR (aL h);unfold yG at a;rw[ns]at hw a;exact .mk _ _ _ _ _ _ _ (hU g.K f).scope (hU g.K f).closure _ _ _ _ _ _ _ aB (aL (aL h)) a hw (bq (aL (aR h))) (bn (aL (aR (aR h)))) (bn (aL (aR (aR (aR h))))) (λY a7 Y Y i j=>Ub d (bq (aR (aR (aR (aR h))))) a7 i j) (λx k=>OE (iI.mp (aL b) x k)) (afY f) (IK b).1 (IK b).2 λe=>by
  subst e;exact⟨aP (λx:Value×PySem.Str=>Value.ref (oW x.1)) EL,aP Prod.snd EL⟩
theorem adD(h:b=x::y):b=s7 b::b.tail:=by refine B h ?_;rfl
theorem aeu(hp:(g.prog.main.scope.names.lookup (PS "super")).isSome=false)(F:Ab g.K=true)(aB:A9 g.K=A_ g.K)(e:x_ g.K=yd g.K)(i:yb g.K=ye g.K g.prog.main.file)(a:N1 g.K=true):vX g:=by
 haveI j:=Bx (p:=λf=>g.K.lookup (fi f)) (aP Prod.fst aB) .dN;have d:=Bx (q:=λf=>yG f (ny g.K f)) (aP Prod.snd aB) .dN;have h:=aL (wh F .dN);have c:=aL (aR (aL a));have k:=aR (aR (aL a));have s1:=iI.mp (aL c);have s2:=iI.mp (aL (aR c));refine az (Option.isSome_iff_exists.mp (aL k)) λv l=>?_;haveI len:=bq (aR (aR (aR (aR h))));haveI m:=L3 (P:=λas=>∃ar,((zo [.X,.dK,.jy] as).head?)=some ar/\ar.arg=Nm.X.S) len λx y z=>⟨_,rfl,rfl⟩;haveI n:=aP (λx=>x.2.1) i;haveI o:=adD d;exact az m λar z=>aU z λr t=>.mk _ _ _ (hU g.K .dN).name (hU g.K .dN).qualname _ (s7 (ny g.K .dN)) (ny g.K .dN).tail (hU g.K .dN).scope .none _ _ _ _ _ (wF g.K) (ue g.K) (wJ g.K) ar _ (j.trans (aP (λx=>some (yM (nu g.K (fi .dN)) (.func x))) ((aP (λb=>({vq .dN (hU g.K .dN)with body:=.stmts b}:FuncData)) o).trans (aP (λc=>({vq .dN (hU g.K .dN)with body:=.stmts (s7 (ny g.K .dN)::(ny g.K .dN).tail),closure:=c}:FuncData)) n)))) (aL (aL h)) (aP s7 d) (aL (aL a)) rfl (aP List.tail d) (aR (aL h)) (bq (aL (aR h))) (bn (aL (aR (aR h)))) (bn (aL (aR (aR (aR h)))))
  (λs x y z=>.of_eq (congrFun (Io .dN len rfl) ⟨(hU g.K .dN).name,(hU g.K .dN).qualname,s7 (ny g.K .dN)::(ny g.K .dN).tail,(hU g.K .dN).scope,[(PS "__class__",ue g.K)],(hU g.K .dN).kwdefaults,(hU g.K .dN).doc,(hU g.K .dN).pyModule,(hU g.K .dN).annotations,.ref (wF g.K),(hU g.K .dN).closureTuple⟩))
  (λp hp=>bne (aL (s1 p hp))) (λx u=>bq (s2 x u)) (λp hp hf=>bo (aR (s1 p hp)) (λh=>absurd hf (bne h)) bq) r t (bq (aL (aR (aR c)))) (bq (aR (aR (aR c)))) _ _ _ _ _ _ (aP (λx=>x.2.1) e) (aP (λx=>x.2.2.1) i) (beq_self_eq_true _) _ _ _ _ (aP (λx=>x.2.2.1) e) l (bq (aL (aR k))) (bq (aL (aR a))) hp (bq (aR (aR k))) (bq (aL (aR (aR a)))) (bq (aR (aR (aR a))))
theorem J7{g:Gd}(h:Ad g.K x (some v)=true):g.mg (PS x)=some v:=mg_of g.a7 g.T.g (bq h)
theorem Qk:∀{ss:List String} {l:List Value},bX g h (ss.map .str) (GA ss l)
 |[],_=>.nil
 |s::_,_=>.cons _ _ _ _ (.str s _) Qk
theorem Uz(e:x_ g.K=yd g.K)(b:yb g.K=ye g.K file)(h:zE g.K=true):o7 g:=by
 have C:=λc=>iI.mp (aL (aR h)) c (by cases c;exact .head _;exact .tail _ (.head _);exact .tail _ (.tail _ (.head _)))
 have F:=wh (aR (aR h));have fd:=λc x a=>iI.mp (aL (aR (aR (aR (aL (C c)))))) x (List.contains_iff_mem.mp a);have d:=λh=>Qk (g:=g) (h:=h) (ss:=Ql) (l:=(B5 (nu g.K (yB g.K))).toList);exact⟨λn i hi=>⟨_,mg_of g.a7 g.T.g (List.map_inj_left.mp (aP (λx=>x.2.2.2.2) b:List.map (λp:String×Int=>nsIn g.K mainGlobals (PS p.1)) uI=List.map (λp=>some (some (.int p.2 (yK (F_ g.K p.1))))) uI) (n,i) (ji hi))⟩,
  (d_ _ _ _ (cg (mg_of g.a7 g.T.g (aP (λx=>x.2.2.2.1) b)) (by refine aT ((d g.gB).len) ?_;decide+kernel) (aP (λx=>x.2.2.2) e) d)),
  λf hf=>J7 (bo (aL (aL (F f))) (λh=>by rw[hf]at h;exact nf h) id),
  λn v j=>mg_none_of g.a7 g.T.g (bq (iI.mp (aL h) (n,v) (ji j))),
  λc f hf k=>bq (bo (wh (aR (aR (aR (aR (aL (C c)))))) f) (λh=>by rw[bne_iff_ne.mpr hf,k]at h;exact nf h) id),
  λf=>have z:=aR (aL (F f));⟨aL z,aL (aR z),aR (aR z)⟩,
  λc=>J7 (aL (aL (C c))),
  λc=>aL (aR (aL (C c))),
  λc=>aL (aR (aR (aL (C c)))),
  λc x a=>bq (aL (fd c x a)),
  λc=>⟨bq (aL (aR (C c))),aL (aR (aR (C c)))⟩,
  λc=>aR (aR (aR (C c)))|>λz=>⟨aL z,aR z⟩,
  λf=>⟨bq (aL (aR (F f))),bq (aR (aR (F f)))⟩,
  λc x a=>bq (aR (fd c x a))⟩
theorem Rb:∀{n:Nat} {s a:SharedT} {t:Thread},Cf (stepT (denote tb) p w) b c n s t=some a->topRun tb p w b c n s.abs t=some a.abs
 |0,_,_,_,h=>nomatch h
 |n+1,s,a,t,h=>by
  replace h:cond (through t) (some s) (cond (stepOk b c t) ((stepT (denote tb) p w s t).bind λr=>Cf (stepT (denote tb) p w) b c n r.1 r.2) none)=some a:=h;unfold topRun;cases d:through t with
  |true=>rw[d]at h;injection h with h;subst h;rfl
  |false=>
   rw[d]at h;cases e:stepOk b c t with
   |false=>rw[e]at h;injection h
   |true=>
    rw[e]at h;cases hs:stepT (denote tb) p w s t with
    |none=>rw[hs]at h;injection h
    |some r=>rw[hs]at h;dsimp only;rw[stepT_spec hs];exact Rb h
theorem Iu:∀{l:List Obj} {n:Nat} {t:BT},wA l n t=true->absHeap (zA l n t) (n+l.length) life=⟨(absHeap t n life).objs++l.toArray,life⟩
 |[],n,t,_=>by
  rw[Array.append_empty];rfl
 |o::l,n,t,h=>by
  obtain⟨a,b⟩:=ow.mp h;haveI:=Iu (life:=life) b;rw[absHeap_ins a]at this;show absHeap (zA l (n+1) (t.ins n o)) (n+(l.length+1)) life=_;rw[<-Nat.add_assoc,Nat.add_right_comm,this];rw[List.toArray_cons,<-Array.append_assoc];rfl
theorem J5(h:p∈i_ t):t.abs.heap.get? p.1=some p.2/\F6 p.2=true:=by
 refine gn λc=>?_;obtain⟨a,ha,e⟩:=List.mem_filterMap.mp h;obtain⟨o,d,b⟩:=Option.bind_eq_some_iff.mp e;obtain⟨i,f,g⟩:=Option.bind_eq_some_iff.mp d;refine c ?_;cases n:F6 o with
 |false=>rw[n]at b;exact nn b
 |true=>
  rw[n]at b;clear h c e;injection b with b;subst b
  exact⟨(abs_get (List.mem_range.mp ha) f).trans g,n⟩
theorem WA(t:SharedT):(i_ t).In t.abs.heap:=λa o e=>(J5 (mem_of_lookupK e)).1
theorem WB(t:SharedT):noTabs (i_ t)=true:=iI.mpr λp hp=>(J5 hp).2
def YP(h:Heap):Prop:=∃K:Frag,K.In h/\noTabs K=true/\kB K=true/\zE K=true/\Ab K=true/\A9 K=A_ K/\x_ K=yd K/\yb K=ye K pg.main.file
theorem Uh(ok:wA (boot_heap P).objs.toList 0 .nil=true)(n:(boot_heap P).objs.size=11):absHeap (Dw P) 11 {}=boot_heap P:=by
 haveI:=Iu (life:={}) ok;simp only[Nat.zero_add,Array.length_toList,n]at this;refine this.trans ?_;show(⟨#[]++(boot_heap P).objs.toList.toArray,(boot_heap P).life⟩)=boot_heap P
 exact B Array.empty_append rfl
theorem RW{K:Frag}(a:((List.range 50).all λn=>ri K (aJ.ofNat n))=true)(b:((List.range' 50 33).all λn=>ri K (aJ.ofNat n))=true):Ab K=true:=by
 show((List.range 50++List.range' 50 33).all λn=>ri K (aJ.ofNat n))=true;rw[List.all_append,a,b];rfl
theorem afa(hs:(λt:SharedT=>openSeen q [] ms Xt true t.abs)=G)(le:Nat.ble 4400 N=true)(C:Nat.ble 600 N=true)(hm:importedModules pg.main.body=ms)(e:opening pg=plainProg pg.main.scope.names)(f:∀s,fenceModules? pg s=some s)(ok:∀P,wA (boot_heap P).objs.toList 0 .nil=true)
 (size:∀w:World,((boot_heap w.params).isNs mainGlobals&&(Array.mk []:Array GenState).size==0,(boot_heap w.params).objs.size,(boot_heap w.params).nsMap mainGlobals "__annotations__")=(true,11,some (.ref 6)))
 (l:∀w os,(mS w os).map (λt=>(staticsOk ms (boot_heap w.params) t.abs.heap&&namesBound pg t.abs.heap&&gensDone t.abs&&laidKept (boot_heap w.params) t.abs.heap,(G t).1,(G t).2.1,(G t).2.2.1))=some (true,expectedOf q,bltViewBooted,true))
 (m:∀w os,(mS w os).map (λt=>(zE (i_ t),kB (i_ t),(G t).2.2.2.2.2.2.2.1))=some (true,true,wideGood q))
 (o:∀w os,(mS w os).map (λt=>((List.range 50).all λn=>ri (i_ t) (aJ.ofNat n),(G t).2.2.2.2.2.2.1))=some (true,plainGoodD q []))
 (u:∀w os,(mS w os).map (λt=>((G t).2.2.2.1,A9 (i_ t),x_ (i_ t),yb (i_ t)))=(mS w os).map λt=>(true,A_ (i_ t),yd (i_ t),ye (i_ t) pg.main.file))
 (v:∀w os,(mS w os).map (λt=>((G t).2.2.2.2.1,(G t).2.2.2.2.2.1))=some (pinGoodD (drecsOf q),plainGoodE q (looseW q [])))
 (y:∀w os,(mS w os).map (λt=>((List.range' 50 33).all λn=>ri (i_ t) (aJ.ofNat n),(G t).2.2.2.2.2.2.2.2))=some (true,clsGoodW q [])):
 LeftO pg q [] Xt (λs=>YP s.heap) (λY=>True) N:=λw=>by
 refine gn λE=>?_;subst hm;obtain⟨⟨h,I,d,k,os⟩,L,M⟩:=Option.map_eq_some_iff.mp (boot_open e C f w);obtain⟨rfl,rfl,rfl,rfl⟩:h=boot_heap w.params/\I=Array.mk []/\d=boot_drawn/\k=boot_toks:=by simpa using M
 haveI Q:=aP Prod.fst (size w);have z:=aP (λx=>x.2.1) (size w);haveI R:=aP (λx=>x.2.2) (size w);obtain⟨t,A,j⟩:=Option.map_eq_some_iff.mp (l w os);refine E ?_;haveI b:=m w os;haveI c:=o w os;haveI a:=u w os;haveI g:=v w os;haveI i:=y w os;rw[A]at b c a g i;haveI b:=dH b;haveI c:=dH c;haveI a:=dH a;haveI g:=dH g;haveI i:=dH i;haveI W:=aP Prod.fst j;haveI X:openSeen q [] (importedModules pg.main.body) Xt true t.abs=openGood q []:=(congrFun hs t).trans (Prod.ext (aP (λx=>x.2.1) j) (Prod.ext (aP (λx=>x.2.2.1) j) (Prod.ext (aP (λx=>x.2.2.2) j) (Prod.ext (aP (λx=>x.1) a) (Prod.ext (aP (λx=>x.1) g) (Prod.ext (aP (λx=>x.2) g) (Prod.ext (aP (λx=>x.2) c) (Prod.ext (aP (λx=>x.2.2) b) (aP (λx=>x.2) i)))))))));haveI r:=topRun_mono (N-4400) _ _ _ _ (Rb (tb:=treeTable) (p:=pg) (w:=w) (by rw[Fast.te10156331382660048174,Fast.te11892475500146522536,Fast.te14364793385576792824];exact A))
 rw[Nat.add_sub_cancel' (bt le)]at r;haveI Z:(⟨Dw w.params,11,{},Array.mk [],boot_drawn,boot_toks,os⟩:SharedT).abs=⟨boot_heap w.params,Array.mk [],boot_drawn,boot_toks,os⟩:=aP (λh=>(⟨h,_,_,_,_⟩:Shared)) (Uh (ok _) z);rw[Z]at r;haveI J:topFrom treeTable pg w N ⟨boot_heap w.params,Array.mk [],boot_drawn,boot_toks,os⟩=some t.abs:=by
  unfold topFrom;refine B (show(_&&_)=true from Q)<|B (show(boot_heap w.params).objs.size=11 from z)<|B (show(boot_heap w.params).nsMap mainGlobals "__annotations__"=some (.ref 6)from R) ?_;dsimp only;rw[r,Option.bind_some,show(_&&_&&_&&_)=true from W]
 unfold openEnds;simp only[L,Option.bind_some,J,Option.map_some];exact aP some (Prod.ext X (eq_true (cR (i_ t) (o8 (WA t) (WB t) (aP (λx=>x.2.1) b) (aP Prod.fst b) (RW (aP Prod.fst c) (aP Prod.fst i)) (aP (λx=>x.2.1) a) (aP (λx=>x.2.2.1) a) (aP (λx=>x.2.2.2) a)))))
end
noncomputable def aW{a:Type}(f:Int->a)(k:Int)(x:a):Int->a:=λy=>if y=k then x else f y
noncomputable def cS(n:Nat)(f:Int->V):List V:=(List.range n).map λ(i:Nat)=>f i
noncomputable def Zl(l:List Int):List V:=l.map .int
noncomputable def oi:Option Int->V|none=>.none|some i=>.int i
set_option genCtorIdx false in
inductive bT where
 |ob (c:Cl)|at(c:Cl)|aa|ae|R|S|P|sn|us|ac|pl|hp|ws|w (i:Int)|cl|c (i:Int)|st|dr|U|tr|aK|ps|pn
noncomputable def bT.ctorIdx(x:bT):Nat:=by cases x;exact 0;exact 1;exact 2;exact 3;exact 4;exact 5;exact 6;exact 7;exact 8;exact 9;exact 10;exact 11;exact 12;exact 13;exact 14;exact 15;exact 16;exact 17;exact 18;exact 19;exact 20;exact 21;exact 22
theorem bT.ne{a b:bT}(n:Nat.beq a.ctorIdx b.ctorIdx=false):a≠b:=λh=>by rw[h,Nat.beq_refl]at n;exact nt n
structure T where
 n:Nat
 aa:Int->Int
 ae:Int->Int
 R:Int->Int
 S:Int->Int
 P:Int->Int
 sn:Int->Bool
 us:Int->Option Int
 ac:Int->Int
 pl:Int->Int
 hp:List Int
 hs:Int
 ws:Int->List Int
 m:Nat
 cl:Int->List Int
 st:Int->Option Int
 kW:Nat
 dr:Int->Bool
 nB:Nat
 nW:Nat
 tr:List Int
 aK:List Int
 hd:Int
 iq:Int
 ld:Int
 rt:Int
 cf:Int
 dc:Int
 ok:Bool
 es:Option Int
 fa:Option Int
 fd:List Int
 pf:Bool
 ps:List (V×List Int×V×V)
 pe:Int
noncomputable def QN(x:V×List Int×V×V):V:=.aE [x.1,.aE (Zl x.2.1),x.2.2.1,x.2.2.2]
noncomputable def kv(I:bT->Nat)(t:T):Cl->List (Nm×V)
 |.aO=>[(.jy,.none),(.nj,.ref (I .aa)),(.iR,.ref (I .ae)),(.kx,.ref (I .R)),(.pX,.ref (I .S)),(.rS,.ref (I .P)),(.lN,.ref (I .ws)),(.heap,.ref (I (.ob .heap))),
  (.iU,.ref (I .tr)),(.qI,.ref (I .aK)),(.head,.int t.hd),(.iq,.int t.iq),(.fS,.ref (I .cl)),(.cK,.ref (I .st)),(.uv,.ref (I .dr)),(.zh,.ref (I .U)),(.vj,.int t.ld),
  (.dK,cond t.pf (.ref (I (.ob .cK))) .none),(.iF,.ref (I .sn)),(.qK,.ref (I .us)),(.rW,.int t.rt),(.nK,.bool t.ok),(.ux,oi t.es),(.j4,.aE (Zl t.fd)),(.qe,oi t.fa),
  (.wL,.int 0),(.q7,.int t.cf),(.ur,.int t.dc)]
 |.heap=>[(.oS,.int gk),(.step,.int t.hs),(.lq,.ref (I .ac)),(.heap,.ref (I .hp)),(.jk,.ref (I .pl))]
 |.cK=>[(.cK,.ref (I .ps)),(.FZ,.ref (I .pn)),(.sO,.int t.pe)]
noncomputable def BJ(b:Bool)(o:bN):Option bN:=cond b (some o) none
noncomputable def jJ(c:Cl)(b:Bool)(o:bN):Option bN:=match c with
 |.cK=>BJ b o
 |_=>some o
noncomputable def cont(I:bT->Nat)(t:T):bT->Option bN
 |.ob c=>jJ c t.pf (.dB c (I (.at c)))
 |.at c=>jJ c t.pf (.cM c (kv I t c))
 |.aa=>some (.list (cS (t.n+1) λi=>.int (t.aa i)))
 |.ae=>some (.list (cS (t.n+1) λi=>.int (t.ae i)))
 |.R=>some (.list (cS (t.n+1) λi=>.int (t.R i)))
 |.S=>some (.list (cS (t.n+1) λi=>.int (t.S i)))
 |.P=>some (.list (cS (t.n+1) λi=>.int (t.P i)))
 |.sn=>some (.list (cS (t.n+1) λi=>.bool (t.sn i)))
 |.us=>some (.list (cS (t.n+1) λi=>oi (t.us i)))
 |.ac=>some (.list (cS (t.n+1) λi=>.int (t.ac i)))
 |.pl=>some (.list (cS (t.n+1) λi=>.int (t.pl i)))
 |.hp=>some (.list (Zl t.hp))
 |.ws=>some (.list (cS (2*t.n+2) λi=>.ref (I (.w i))))
 |.w i=>if 0<=i/\i<2*t.n+2 then some (.list (Zl (t.ws i)))else none
 |.cl=>some (.list (cS t.m λi=>.ref (I (.c i))))
 |.c i=>if 0<=i/\i<t.m then some (.list (Zl (t.cl i)))else none
 |.st=>some (.list (cS t.kW λi=>oi (t.st i)))
 |.dr=>some (.list (cS t.nB λi=>.bool (t.dr i)))
 |.U=>some (.list (cS t.nW λY=>.int 0))
 |.tr=>some (.list (Zl t.tr))
 |.aK=>some (.list (Zl t.aK))
 |.ps=>BJ t.pf (.list (t.ps.map QN))
 |.pn=>BJ t.pf (.list [.int 0])
def cX(c:bT->Option bN)(I:bT->Nat)(Z A:H):Prop:=Q4
 (∀aD o,c aD=some o->A (I aD)=some o)
 (∀aD b o d,c aD=some o->c b=some d->I aD=I b->aD=b)
 (∀a o,Z a=some o->A a=some o)
 (∀a o aD d,Z a=some o->c aD=some d->I aD≠a)
noncomputable abbrev Mem(I:bT->Nat)(t:T):H->H->Prop:=cX (cont I t) I
theorem H.bC{A:H}:A.set a o a=some o:=bA rfl
theorem H.a6{A:H}(h:b≠a):A.set a o b=A b:=bx h
theorem cX.set(M:cX c I Z A)(aD:bT)(h0:c aD=some o)(j:h aD=some k)(i:∀d,d≠aD->h d=c d):cX h I Z (A.set (I aD) k):=by
 have lv:∀d x,h d=some x->∃y,c d=some y:=λd x e=>dx (d=aD) (λq=>⟨o,B q h0⟩) λq=>⟨x,i d q▸e⟩;refine⟨λd x e=>?_,λa b x y g f=>?_,λa x e=>?_,λa x d y g f=>?_⟩
 .refine dx (d=aD) (λq=>?_) λq=>?_
  .exact B q<|B H.bC<|aT j<|aT q<|B e rfl
  .rw[i d q]at e;exact B (H.a6 λz=>q (M.2 _ _ _ _ e h0 z)) (M.1 _ _ e)
 .obtain⟨m,g⟩:=lv _ _ g;obtain⟨l,f⟩:=lv _ _ f;exact M.2 _ _ _ _ g f
 .exact B (H.a6 (cQ (M.4 _ _ _ _ e h0))) (M.3 _ _ e)
 .obtain⟨l,f⟩:=lv _ _ f;exact M.4 _ _ _ _ g f
theorem cX.dy(M:cX c I Z A)(h:A a=none\/∃d,Z a=some d):cX c I (Z.set a o) (A.set a o):=by
 have f:∀aD x,c aD=some x->I aD≠a:=λaD x e q=>h.elim (λz=>by replace z:=q.symm▸z;replace z:=(M.1 _ _ e)▸z;exact ns z) λj=>az j λd z=>M.4 _ _ _ _ z e q
 refine⟨λaD x e=>?_,M.2,λb x e=>?_,λb x aD y g i=>?_⟩
 .exact B (H.a6 (f _ _ e)) (M.1 _ _ e)
 .refine dx (b=a) (λq=>?_) λq=>?_
  .rw[q,H.bC]at e⊢;exact e
  .rw[H.a6 q]at e⊢;exact M.3 _ _ e
 .by_cases q:(b=a)
  .exact B q (f _ _ i)
  .rw[H.a6 q]at g;exact M.4 _ _ _ _ g i
theorem cX.fD(M:cX c I Z A)(h:∀a o,bj a=some o->Z a=some o):cX c I bj A:=
 ⟨M.1,M.2,λa o e=>M.3 a o (h a o e),λa o aD b e=>M.4 a o aD b (h a o e)⟩
theorem cX.dP(M:cX c I Z A)(h:A a=none):Z a=none:=by
 cases e:Z a with
 |none=>rfl
 |some o=>replace h:=(M.3 _ _ e)▸h;exact ns h
noncomputable def FX(I:bT->Nat)(a:Nat):bT->Nat|.tr=>a|aD=>I aD
noncomputable def O4(I:bT->Nat)(a:Nat):bT->Nat|.aK=>a|aD=>I aD
noncomputable def BA(I:bT->Nat)(a:Nat):bT->Nat|.ac=>a|aD=>I aD
noncomputable def j7(I:bT->Nat)(i:Int)(a:Nat):bT->Nat|.w j=>if j=i then a else I (.w j)|aD=>I aD
noncomputable def lI(I:bT->Nat)(i:Int)(a:Nat):bT->Nat|.c j=>if j=i then a else I (.c j)|aD=>I aD
set_option tactic.hygienic true in
theorem cX.mv(M:cX c I Z A)(aD f:bT)(j:c f=some s)(E:f≠aD)(ha:Z a=some o)(k:m aD=a)(i:∀d,d≠aD->m d=I d)
 (t:l aD=some o) (w:l f=some x) (n:∀d,d≠aD->d≠f->l d=c d):cX l m (Z.jQ a) (A.set (I f) x):=by
 have lv:∀d y,d≠aD->l d=some y->∃z,c d=some z:=λd y q e=>
  dx (d=f) (λq=>⟨s,B q j⟩) λh=>⟨y,n d q h▸e⟩
 have jQ:∀b y,Z.jQ a b=some y->b≠a/\Z b=some y:=λb y e=>by
  unfold H.jQ at e
  split at e
  .exact nn e
  .rename_i q;exact⟨q,e⟩
 have C:a≠I f:=λq=>M.4 _ _ _ _ ha j q.symm;refine⟨λd y e=>?_,λu v y z f1 f2 q=>?_,λb y e=>?_,λb y d z f1 f2=>?_⟩
 .refine dx (d=aD) (λq=>?_) λq=>?_
  .haveI q:=q.symm;subst q;simp only[k,H.a6 C,M.3 _ _ ha,<-t,e]
  .refine dx (d=f) (λh=>?_) (λh=>?_)
   .have h:=h.symm;subst h;refine B ((i _ q)) ?_;simp only[H.bC,<-w,e]
   .rw[n _ q h]at e;rw[i _ q,H.a6 λz=>h (M.2 _ _ _ _ e j z)];exact M.1 _ _ e
 .refine dx (u=aD) (λp=>?_) (λp=>?_)
  .refine dx (v=aD) (λp'=>?_) (λp'=>?_)
   .exact B p<|B p' rfl
   .rw[p,k,i _ p']at q;obtain⟨r,g2⟩:=lv _ _ p' f2;exact absurd q.symm (M.4 _ _ _ _ ha g2)
  .obtain⟨G,g1⟩:=lv _ _ p f1;refine dx (v=aD) (λp'=>?_) (λp'=>?_)
   .rw[p',k,i _ p]at q;exact absurd q (M.4 _ _ _ _ ha g1)
   .obtain⟨r,g2⟩:=lv _ _ p' f2;rw[i _ p,i _ p']at q;exact M.2 _ _ _ _ g1 g2 q
 .obtain⟨q,e⟩:=jQ _ _ e;exact B (H.a6 (cQ (M.4 _ _ _ _ e j))) (M.3 _ _ e)
 .obtain⟨q,f1⟩:=jQ _ _ f1;refine dx (d=aD) (λp=>?_) λp=>?_
  .exact B p<|B k<|cQ q
  .obtain⟨r,g⟩:=lv _ _ p f2;exact B (i _ p) (M.4 _ _ _ _ f1 g)
theorem fJ:(cS n f).length=n:=by simp[cS]
theorem H7{n:Nat}{j:Int}(h0:0<=j)(a:j<n):(cS n f)[j.toNat]? =some (f j):=by
 haveI:j.toNat<n:=by lia
 simp[cS,this,Int.toNat_of_nonneg h0]
theorem wq{n:Nat}{f:Int->V}{j:Int}{v:V}(h0:0<=j):(cS n f).set j.toNat v=cS n (aW f j v):=by
 apply List.ext_getElem (by simp[cS])
 intro i a b;simp only[cS,List.getElem_set,List.getElem_map,List.getElem_range,aW];by_cases q:(i=j)
 .rw[bA q,bA (by lia)]
 .rw[bx q,bx (by lia)]
theorem sA{n:Nat}{f:Int->V}{v:V}:cS n f++[v]=cS (n+1) (aW f n v):=by
 simp only[cS,List.range_succ,iJ,List.map_cons,List.map_nil,aW,if_true]
 congr 1
 apply k8;intro i hi;have:=List.mem_range.mp hi;exact B (bx (by lia)) rfl
theorem cU{a:Type}{f:Int->a}{k:Int}{x:a}:aW f k x k=x:=bA rfl
theorem b7{a:Type}{f:Int->a}{k j:Int}{x:a}(h:j≠k):aW f k x j=f j:=bx h
theorem nR{a b:Type}(g:a->b)(f:Int->a)(k:Int)(x:a):(λi=>g (aW f k x i))=aW (λi=>g (f i)) k (g x):=by
 funext i;unfold aW;split<;>rfl
theorem mA{n:Nat}{j:Int}(h0:0<=j)(a:j<n):mZ n j=some j.toNat:=by
 unfold mZ;exact B (bA h0)<|B (bA a) rfl
noncomputable def T.A'(t:T)(x:Int->Int):T:={t with aa:=x}
noncomputable def T.L'(t:T)(x:Int->Int):T:={t with ae:=x}
noncomputable def T.R'(t:T)(x:Int->Int):T:={t with R:=x}
noncomputable def T.S'(t:T)(x:Int->Int):T:={t with S:=x}
noncomputable def T.P'(t:T)(x:Int->Int):T:={t with P:=x}
noncomputable def T.jV(t:T)(x:Int->Bool):T:={t with sn:=x}
noncomputable def T.p0(t:T)(x:Int->Option Int):T:={t with us:=x}
noncomputable def T.C4(t:T)(x:Int->Int):T:={t with ac:=x}
noncomputable def T.rT(t:T)(x:Int->Int):T:={t with pl:=x}
noncomputable def T.fT(t:T)(x:List Int):T:={t with hp:=x}
noncomputable def T.NN(t:T)(x:Int):T:={t with hs:=x}
noncomputable def T.k0(t:T)(x:Int->List Int):T:={t with ws:=x}
noncomputable def T.oB(t:T)(x:Int->List Int):T:={t with cl:=x}
noncomputable def T.G5(t:T)(x:List Int):T:={t with tr:=x}
noncomputable def T.B_(t:T)(x:List Int):T:={t with aK:=x}
noncomputable def T.EJ(t:T)(x:Int):T:={t with hd:=x}
noncomputable def T.ai_(t:T)(x:Int):T:={t with iq:=x}
noncomputable def T.Bj(t:T)(x:Int):T:={t with ld:=x}
noncomputable def T.qD(t:T)(x:Int):T:={t with rt:=x}
noncomputable def T.Uy(t:T)(x:Int):T:={t with cf:=x}
noncomputable def T.wO(t:T)(x:Int):T:={t with dc:=x}
noncomputable def T.Gb(t:T)(x:Bool):T:={t with ok:=x}
noncomputable def T.sQ(t:T)(x:Option Int):T:={t with es:=x}
noncomputable def T.rg(t:T)(x:Option Int):T:={t with fa:=x}
noncomputable def T.oJ(t:T)(x:List Int):T:={t with fd:=x}
noncomputable def T.vu(t:T)(x:Int):T:={t with pe:=x}
noncomputable def T.qB(t:T)(x:List (V×List Int×V×V)):T:={t with ps:=x}
inductive eZ(I:bT->Nat)(t J:T)(aD:bT)(o:bN):Prop|mk
 (Y:cont I J aD=some o)
 (Y:∀cZ,cZ≠aD->cont I J cZ=cont I t cZ)
 :eZ I t J aD o
theorem IF{I:bT->Nat}{t:T}{k x:Int}:eZ I t (t.A' (aW t.aa k x)) .aa (.list (cS (t.n+1) (aW (λi=>.int (t.aa i)) k (.int x)))):=⟨aP (λf=>some (bN.list (cS (t.n+1) f))) (nR V.int t.aa k x),λaD h=>by cases aD<;>first|rfl|exact absurd rfl h⟩
theorem UA{I:bT->Nat}{t:T}{k x:Int}:eZ I t (t.L' (aW t.ae k x)) .ae (.list (cS (t.n+1) (aW (λi=>.int (t.ae i)) k (.int x)))):=⟨aP (λf=>some (bN.list (cS (t.n+1) f))) (nR V.int t.ae k x),λaD h=>by cases aD<;>first|rfl|exact absurd rfl h⟩
theorem IG{I:bT->Nat}{t:T}{k x:Int}:eZ I t (t.R' (aW t.R k x)) .R (.list (cS (t.n+1) (aW (λi=>.int (t.R i)) k (.int x)))):=⟨aP (λf=>some (bN.list (cS (t.n+1) f))) (nR V.int t.R k x),λaD h=>by cases aD<;>first|rfl|exact absurd rfl h⟩
theorem UC{I:bT->Nat}{t:T}{k x:Int}:eZ I t (t.S' (aW t.S k x)) .S (.list (cS (t.n+1) (aW (λi=>.int (t.S i)) k (.int x)))):=⟨aP (λf=>some (bN.list (cS (t.n+1) f))) (nR V.int t.S k x),λaD h=>by cases aD<;>first|rfl|exact absurd rfl h⟩
theorem UB{I:bT->Nat}{t:T}{k x:Int}:eZ I t (t.P' (aW t.P k x)) .P (.list (cS (t.n+1) (aW (λi=>.int (t.P i)) k (.int x)))):=⟨aP (λf=>some (bN.list (cS (t.n+1) f))) (nR V.int t.P k x),λaD h=>by cases aD<;>first|rfl|exact absurd rfl h⟩
theorem UD{I:bT->Nat}{t:T}{k x:Int}:eZ I t (t.C4 (aW t.ac k x)) .ac (.list (cS (t.n+1) (aW (λi=>.int (t.ac i)) k (.int x)))):=⟨aP (λf=>some (bN.list (cS (t.n+1) f))) (nR V.int t.ac k x),λaD h=>by cases aD<;>first|rfl|exact absurd rfl h⟩
theorem zI{I:bT->Nat}{t:T}{k x:Int}:eZ I t (t.rT (aW t.pl k x)) .pl (.list (cS (t.n+1) (aW (λi=>.int (t.pl i)) k (.int x)))):=⟨aP (λf=>some (bN.list (cS (t.n+1) f))) (nR V.int t.pl k x),λaD h=>by cases aD<;>first|rfl|exact absurd rfl h⟩
theorem wI{I:bT->Nat}{t:T}{k:Int}{x:Bool}:eZ I t (t.jV (aW t.sn k x)) .sn (.list (cS (t.n+1) (aW (λi=>.bool (t.sn i)) k (.bool x)))):=⟨aP (λf=>some (bN.list (cS (t.n+1) f))) (nR V.bool t.sn k x),λaD h=>by cases aD<;>first|rfl|exact absurd rfl h⟩
theorem UT{I:bT->Nat}{t:T}{k:Int}{x:Option Int}:eZ I t (t.p0 (aW t.us k x)) .us (.list (cS (t.n+1) (aW (λi=>oi (t.us i)) k (oi x)))):=⟨aP (λf=>some (bN.list (cS (t.n+1) f))) (nR oi t.us k x),λaD h=>by cases aD<;>first|rfl|exact absurd rfl h⟩
theorem zH:eZ I t (t.fT x) .hp (.list (Zl x)):=⟨rfl,λaD h=>by cases aD<;>first|rfl|exact absurd rfl h⟩
theorem US:eZ I t (t.G5 x) .tr (.list (Zl x)):=⟨rfl,λaD h=>by cases aD<;>first|rfl|exact absurd rfl h⟩
theorem UQ:eZ I t (t.B_ x) .aK (.list (Zl x)):=⟨rfl,λaD h=>by cases aD<;>first|rfl|exact absurd rfl h⟩
set_option tactic.hygienic true in
theorem DE:eZ I t (t.EJ x) (.at .aO) (.cM .aO (gD (kv I t .aO) .head (.int x))):=⟨rfl,λaD h=>by cases aD<;>first|rfl|(rename_i c;cases c<;>first|rfl|exact absurd rfl h)⟩
set_option tactic.hygienic true in
theorem UR:eZ I t (t.ai_ x) (.at .aO) (.cM .aO (gD (kv I t .aO) .iq (.int x))):=⟨rfl,λaD h=>by cases aD<;>first|rfl|(rename_i c;cases c<;>first|rfl|exact absurd rfl h)⟩
set_option tactic.hygienic true in
theorem UL:eZ I t (t.Bj x) (.at .aO) (.cM .aO (gD (kv I t .aO) .vj (.int x))):=⟨rfl,λaD h=>by cases aD<;>first|rfl|(rename_i c;cases c<;>first|rfl|exact absurd rfl h)⟩
set_option tactic.hygienic true in
theorem UO:eZ I t (t.qD x) (.at .aO) (.cM .aO (gD (kv I t .aO) .rW (.int x))):=⟨rfl,λaD h=>by cases aD<;>first|rfl|(rename_i c;cases c<;>first|rfl|exact absurd rfl h)⟩
set_option tactic.hygienic true in
theorem UH:eZ I t (t.Uy x) (.at .aO) (.cM .aO (gD (kv I t .aO) .q7 (.int x))):=⟨rfl,λaD h=>by cases aD<;>first|rfl|(rename_i c;cases c<;>first|rfl|exact absurd rfl h)⟩
set_option tactic.hygienic true in
theorem UI:eZ I t (t.wO x) (.at .aO) (.cM .aO (gD (kv I t .aO) .ur (.int x))):=⟨rfl,λaD h=>by cases aD<;>first|rfl|(rename_i c;cases c<;>first|rfl|exact absurd rfl h)⟩
set_option tactic.hygienic true in
theorem IJ:eZ I t (t.Gb x) (.at .aO) (.cM .aO (gD (kv I t .aO) .nK (.bool x))):=⟨rfl,λaD h=>by cases aD<;>first|rfl|(rename_i c;cases c<;>first|rfl|exact absurd rfl h)⟩
set_option tactic.hygienic true in
theorem IH:eZ I t (t.sQ x) (.at .aO) (.cM .aO (gD (kv I t .aO) .ux (oi x))):=⟨rfl,λaD h=>by cases aD<;>first|rfl|(rename_i c;cases c<;>first|rfl|exact absurd rfl h)⟩
set_option tactic.hygienic true in
theorem uf:eZ I t (t.rg x) (.at .aO) (.cM .aO (gD (kv I t .aO) .qe (oi x))):=⟨rfl,λaD h=>by cases aD<;>first|rfl|(rename_i c;cases c<;>first|rfl|exact absurd rfl h)⟩
set_option tactic.hygienic true in
theorem zG:eZ I t (t.oJ x) (.at .aO) (.cM .aO (gD (kv I t .aO) .j4 (.aE (Zl x)))):=⟨rfl,λaD h=>by cases aD<;>first|rfl|(rename_i c;cases c<;>first|rfl|exact absurd rfl h)⟩
set_option tactic.hygienic true in
theorem DF:eZ I t (t.NN x) (.at .heap) (.cM .heap (gD (kv I t .heap) .step (.int x))):=⟨rfl,λaD h=>by cases aD<;>first|rfl|(rename_i c;cases c<;>first|rfl|exact absurd rfl h)⟩
set_option tactic.hygienic true in
theorem UU{I:bT->Nat}{t:T}{k:Int}{x:List Int}(h0:0<=k)(a:k<2*t.n+2):eZ I t (t.k0 (aW t.ws k x)) (.w k) (.list (Zl x)):=⟨(bA ⟨h0,a⟩).trans (aP (λy=>some (bN.list (Zl y))) cU),λaD h=>by cases aD<;>first|rfl|(rename_i j;exact aP (λy=>if 0<=j/\j<2*t.n+2 then some (bN.list (Zl y))else none) (b7 λq=>h (aP _ q)))⟩
set_option tactic.hygienic true in
theorem zF{I:bT->Nat}{t:T}{k:Int}{x:List Int}(h0:0<=k)(a:k<t.m):eZ I t (t.oB (aW t.cl k x)) (.c k) (.list (Zl x)):=⟨(bA ⟨h0,a⟩).trans (aP (λy=>some (bN.list (Zl y))) cU),λaD h=>by cases aD<;>first|rfl|(rename_i j;exact aP (λy=>if 0<=j/\j<t.m then some (bN.list (Zl y))else none) (b7 λq=>h (aP _ q)))⟩
noncomputable def T.QP(t:T)(x:Option Int):T:={t with st:=aW t.st t.kW x,kW:=t.kW+1}
noncomputable def T.Jc(t:T)(x:Bool):T:={t with dr:=aW t.dr t.nB x,nB:=t.nB+1}
noncomputable def T.Ia(t:T):T:={t with nW:=t.nW+1}
noncomputable def T.IM(t:T)(x:List Int):T:={t with cl:=aW t.cl t.m x,m:=t.m+1}
theorem UP:eZ I t (t.QP x) .st (.list ((cS t.kW λi=>oi (t.st i))++[oi x])):=⟨aP (λf=>some (bN.list f)) ((aP (cS (t.kW+1)) (nR oi t.st _ x)).trans sA.symm),λaD h=>by cases aD<;>first|rfl|exact absurd rfl h⟩
theorem UJ:eZ I t (t.Jc x) .dr (.list ((cS t.nB λi=>.bool (t.dr i))++[.bool x])):=⟨aP (λf=>some (bN.list f)) ((aP (cS (t.nB+1)) (nR V.bool t.dr _ x)).trans sA.symm),λaD h=>by cases aD<;>first|rfl|exact absurd rfl h⟩
theorem UG:eZ I t t.Ia .U (.list ((cS t.nW λY=>.int 0)++[.int 0])):=⟨aP (λf=>some (bN.list f)) ((aP (cS (t.nW+1)) (nR (λ_:Int=>V.int 0) t.aa t.nW 0)).trans sA.symm),λaD h=>by cases aD<;>first|rfl|exact absurd rfl h⟩
def Ev(C:Cx)(l:aH)(A:H)(e:a7)(v:V):Prop:=∀Q:V->H->Prop,Q v A->aB C e l A Q
def kD(C:Cx)(l:aH)(A:H)(es:List a7)(E:List V):Prop:=∀Q:List V->H->Prop,Q E A->Es C es l A Q
def p6(C:Cx)(l:aH)(A:H)(es:List a7)(b:Bool):Prop:=∀Q:Bool->H->Prop,Q b A->mK C es l A Q
def qO(C:Cx)(l:aH)(A:H)(es:List a7)(b:Bool):Prop:=∀Q:Bool->H->Prop,Q b A->CK C es l A Q
theorem ki:Ev C l A .none .none:=λY h=>h
theorem gU:Ev C l A (.bool b) (.bool b):=λY h=>h
theorem a8:Ev C l A (.int i) (.int i):=λY h=>h
theorem eG:Ev C l A (.dO n i) (.int i):=λY h=>h
theorem n_:Ev C l A (.str s) (.str s):=λY h=>h
theorem O(h:l x=some v):Ev C l A (.var x) v:=λY q=>⟨v,h,q⟩
theorem JB(h:Ev C l A e v)(g:xh A v n=some w):Ev C l A (.aC e n) w:=λY q=>h _ ⟨w,g,q⟩
theorem aX:kD C l A [] []:=λY q=>q
theorem aI(h:Ev C l A e v)(g:kD C l A es E):kD C l A (e::es) (v::E):=λY q=>h _ (g _ q)
theorem ju(g:kD C l A es E):Ev C l A (.aE es) (.aE E):=λY q=>g _ q
theorem dz(h:Ev C l A a (.int i))(g:Ev C l A b (.int j))(e:qV op i j=x)(k:qS op i j):Ev C l A (.cJ op a b) (.int x):=λY q=>h _ (g _ (cE i j (cg rfl rfl k (B e q))))
theorem ig(h:Ev C l A a (.int i))(e: -i=x):Ev C l A (.neg a) (.int x):=λY q=>h _ ⟨i,rfl,B e q⟩
theorem oH(h:Ev C l A a (.bool b))(e:(!b)=c):Ev C l A (.not a) (.bool c):=λY q=>h _ ⟨b,rfl,B e q⟩
theorem hO:p6 C l A [] true:=λY q=>q
theorem dC(h:Ev C l A e (.bool b))(g:b=true->p6 C l A es c):p6 C l A (e::es) (b&&c):=λQ q=>
 h _ (cR b (aS rfl (λa=>g a _ (by rw[a]at q;exact q)) λa=>by rw[a]at q;exact q))
theorem gT(h:p6 C l A es b):Ev C l A (.and es) (.bool b):=λY q=>h _ q
theorem w8:qO C l A [] false:=λY q=>q
theorem kj(h:Ev C l A e (.bool b))(g:b=false->qO C l A es c):qO C l A (e::es) (b||c):=λQ q=>
 h _ (cR b (aS rfl (λa=>by rw[a]at q;exact q) λa=>g a _ (by rw[a]at q;exact q)))
theorem mU(h:qO C l A es b):Ev C l A (.or es) (.bool b):=λY q=>h _ q
theorem eP(h:Ev C l A a (.int i))(g:Ev C l A b (.int j))(e:IX op i j=c):Ev C l A (.dw op a b) (.bool c):=λY q=>h _ (g _ (cE i j (aS rfl rfl (B e q))))
theorem di(h:Ev C l A a (.int i))(g:Ev C l A b (.int j))(e:(decide (i=j) !=ne)=c):Ev C l A (.eq ne a b) (.bool c):=λY q=>h _ (g _ ⟨_,rfl,B e q⟩)
theorem uB(h:Ev C l A a v)(g:Ev C l A b w)(e:V.eqv v w=some r):Ev C l A (.eq ne a b) (.bool (r !=ne)):=λY q=>h _ (g _ ⟨r,e,q⟩)
theorem uC(h:Ev C l A a (.ref p))(e:A p=some (.list E))(b:E.length<=bf):Ev C l A (.jf ne a) (.bool (E.isEmpty !=ne)):=λY q=>h _ (cE p E (cg rfl e b q))
theorem qa(h:Ev C l A a .none):Ev C l A (.hV ne a) (.bool !ne):=λY q=>h _ ⟨λY=>q,λn=>absurd rfl n⟩
theorem qb(h:Ev C l A a v)(g:v≠.none):Ev C l A (.hV ne a) (.bool ne):=λY q=>h _ ⟨λn=>absurd n g,λY=>q⟩
theorem VW(h:Ev C l A a (oi o)):Ev C l A (.hV ne a) (.bool (o.isNone !=ne)):=by
 cases o with
 |none=>cases ne<;>exact qa h
 |some i=>cases ne<;>exact qb h (λh=>by injection h)
theorem DW(h:Ev C l A a (.bool c)):Ev C l A (.rH ne a b) (.bool (decide (c=b) !=ne)):=λY q=>h _ ⟨c,rfl,q⟩
theorem qc(h:Ev C l A c (.bool r))(d:r=true->Ev C l A a v)(f:r=false->Ev C l A b v):Ev C l A (.ite c a b) v:=λY q=>h _ (cR r (aS rfl (λe=>d e _ q) λe=>f e _ q))
theorem uD(h:Ev C l A a (.ref p))(g:Ev C l A i (.int j))(e:A p=some (.list E))(b:E.length<=bf)(c:mZ E.length j=some k)(d:E[k]? =some v):Ev C l A (.aQ a i) v:=
 λY q=>h _ (g _ (cR j (fF rfl (d_ E k v (e_ e b c d q)))))
theorem DT(h:Ev C l A a (.aE E))(g:Ev C l A i (.int j))(b:mZ E.length j=some k)(c:E[k]? =some v):Ev C l A (.aQ a i) v:=
 λY q=>h _ (g _ (cR j (fF rfl (cE k v (aS b c q)))))
theorem oG(h:Ev C l A a (.ref p))(e:A p=some (.list E))(b:E.length<=bf):Ev C l A (.b1 .len a) (.int E.length):=λY q=>h _ (cR E (aS e b q))
theorem VZ(h:Ev C l A a (.aE E)):Ev C l A (.b1 .len a) (.int E.length):=λY q=>h _ q
theorem fO(h:Ev C l A a (.int i))(e:(i.natAbs:Int)=x):Ev C l A (.b1 .abs a) (.int x):=aT e (λY q=>h _ q)
theorem VU(h:Ev C l A a (.int i)):Ev C l A (.b1 .int a) (.int i):=λY q=>h _ q
theorem JK(h:Ev C l A a (.ref p))(e:A p=some (.list E))(b:E.length<=bf):Ev C l A (.b1 .tuple a) (.aE E):=λY q=>h _ (cR E (aS e b q))
theorem JL(h:Ev C l A a (.aE E)):Ev C l A (.b1 .tuple a) (.aE E):=λY q=>h _ q
theorem JC(h:Ev C l A a (.int i))(g:Ev C l A b (.int j))(e:vO f i j=x):Ev C l A (.b2 f a b) (.int x):=λY q=>h _ (g _ (cE i j (aS rfl rfl (B e q))))
theorem nE(g:kD C l A es E)(h:∀Q:V->H->Prop,Q v A->C f E A Q):Ev C l A (.call f es) v:=λY q=>g _ (h _ q)
def Nx(C:Cx)(r:List St)(Q:Fl->aH->H->Prop):Fl->aH->H->Prop:=λfl l A=>match fl with
 |.next=>Ss C r l A Q
 |fl=>Q fl l A
theorem d9(h:Q .next l A):Ss C [] l A Q:=h
theorem cI(h:Ev C l A e v)(k:Q (.ret v) l A):Ss C (.ret e::r) l A Q:=h _ k
theorem dG(h:Ev C l A e v)(k:Ss C r (l.set x v) A Q):Ss C (.bP x e::r) l A Q:=h _ k
theorem bL(h:Ev C l A c (.bool b))(a:b=true->Ss C t l A (Nx C r Q))(d:b=false->Ss C e l A (Nx C r Q)):Ss C (.ite c t e::r) l A Q:=h _ (cR b (aS rfl a d))
theorem GG(k:Q .brk l A):Ss C (.brk::r) l A Q:=k
theorem GH(k:Q .cont l A):Ss C (.cont::r) l A Q:=k
theorem pY(a:Nat->aH->H->Prop)(n:Nat)(h0:a n l A)
 (step:∀n l A,a n l A->∀R:aH->H->Prop,(∀m l A,m<n->a m l A->R l A)->∀P:Fl->aH->H->Prop,(∀l A,R l A->P .next l A/\P .cont l A)->(∀l A,Nx C r Q .next l A->P .brk l A)->(∀v l A,Q (.ret v) l A->P (.ret v) l A)->
   aB C c l A λv A=>∃t,v=.bool t/\(t=true->Ss C b l A P)/\(t=false->Ss C r l A Q)):Ss C (.kY c b::r) l A Q:=by
 intro R d;haveI:∀n,∀m,m<n->∀l A,a m l A->R l A:=by
  intro n
  induction n with
  |zero=>exactλm h=>absurd h (Nat.not_lt_zero _)
  |succ n ih=>
   intro m hm l A e;exact d l A (step m l A e R (λk l A f h=>ih k (j_ f (Nat.le_of_lt_succ hm)) l A h) _ (λl A h=>⟨h,h⟩) (λl A h=>h) λv l A h=>h)
 exact this _ _ (k5 n) _ _ h0
theorem rj(a:List V->aH->H->Prop)
 (step:∀v E l A,a (v::E) l A->b A/\∀P:Fl->aH->H->Prop,(∀l A,a E l A->P .next l A/\P .cont l A)->(∀l A,Q .next l A->P .brk l A)->(∀v l A,Q (.ret v) l A->P (.ret v) l A)->body v l A P)
 (bZ:∀l A,a [] l A->b A/\Q .next l A):∀(E:List V) (l:aH) (A:H),a E l A->oK body b E l A Q
 |[],l,A,h=>bZ l A h
 |v::E,l,A,h=>⟨(step v E l A h).1,(step v E l A h).2 _ (λl A h=>⟨rj a step bZ E l A h,rj a step bZ E l A h⟩) (λY Y h=>h) λY Y Y h=>h⟩
theorem QI(a:List V->aH->H->Prop)(h:Ev C l A it (.ref p))(e:A p=some (.list ws))(d:ws.length<=bf)(h0:a ws l A)(hp:∀E l A,a E l A->A p=some (.list ws))
 (step:∀v E l A,a (v::E) l A->∀P:Fl->aH->H->Prop,(∀l A,a E l A->P .next l A/\P .cont l A)->(∀l A,Ss C r l A Q->P .brk l A)->(∀v l A,Q (.ret v) l A->P (.ret v) l A)->Ss C b (l.set x v) A P)
 (bZ:∀l A,a [] l A->Ss C r l A Q):Ss C (.for false [x] .seq [it] b::r) l A Q:=
 h _ (cR ws (aS e d (rj a (λv E l A c=>⟨hp _ _ _ c,λP f g i=>⟨l.set x v,rfl,step v E l A c P f g i⟩⟩) (λl A c=>⟨hp _ _ _ c,bZ l A c⟩) _ _ _ h0)))
theorem aiF(a:List V->aH->H->Prop)(h:Ev C l A it (.aE ws))(h0:a ws l A)
 (step:∀v E l A,a (v::E) l A->∀P:Fl->aH->H->Prop,(∀l A,a E l A->P .next l A/\P .cont l A)->(∀l A,Ss C r l A Q->P .brk l A)->(∀v l A,Q (.ret v) l A->P (.ret v) l A)->Ss C b (l.set x v) A P)
 (bZ:∀l A,a [] l A->Ss C r l A Q):Ss C (.for false [x] .seq [it] b::r) l A Q:=
 h _ (rj a (λv E l A c=>⟨trivial,λP d e f=>⟨l.set x v,rfl,step v E l A c P d e f⟩⟩) (λl A c=>⟨trivial,bZ l A c⟩) _ _ _ h0)
def fX(C:Cx)(l:aH)(A:H)(e:a7)(E:List V):Prop:=∀Q:V->H->Prop,(∀a,A a=none->Q (.ref a) (A.set a (.list E)))->aB C e l A Q
theorem yu(h:b=true):BJ b o=some o:=by refine B h ?_;rfl
theorem J9(a:A p=some (.dB c d))(b:A d=some (.cM e aF))(hh:c.has n=true):xh A (.ref p) n=kq aF n:=(aP (λo=>match o with|some (.dB c d)=>(match A d with|some (.cM _ aF)=>if c.has n then kq aF n else none|_=>none)|_=>none) a).trans ((aP (λo=>match o with|some (.cM _ aF)=>if c.has n then kq aF n else none|_=>none) b).trans (bA hh))
theorem qx(h:jJ c b .code≠none):jJ c b o=some o:=by
 cases c<;>first|rfl|(cases b<;>first|rfl|exact absurd rfl h)
theorem cX.ob(M:cX (cont I t) I Z A)(c:Cl)(h:jJ c t.pf .code≠none):A (I (.ob c))=some (.dB c (I (.at c)))/\A (I (.at c))=some (.cM c (kv I t c)):=⟨M.1 (.ob c) _ (qx h),M.1 (.at c) _ (qx h)⟩
theorem bb:jJ .aO b .code≠none:=λh=>ns h
theorem fB:jJ .heap b .code≠none:=λh=>ns h
theorem nM(h:b=true):jJ .cK b .code≠none:=λq=>by replace q:=h▸q;exact ns q
theorem fG(M:Mem I t Z A)(h:Ev C l A e (.ref (I (.ob c))))(g:kq (kv I t c) n=some w)(lv:jJ c t.pf .code≠none)(hh:c.has n=true):Ev C l A (.aC e n) w:=
 JB h ((J9 (M.ob c lv).1 (M.ob c lv).2 hh).trans g)
theorem gA(M:Mem I t Z A)(h:Ev C l A o (.ref (I (.ob c))))(lv:jJ c t.pf .code≠none)(g:kD C l A es E)(k:∀Q:V->H->Prop,Q v A->C f (.ref (I (.ob c))::E) A Q):Ev C l A (.aZ o c f es) v:=
 λY q=>h _ ⟨d_ _ _ _ (aS rfl ((M.ob c lv).1) ((M.ob c lv).2)),g _ (k _ q)⟩
theorem iP(M:Mem I t Z A)(h:Ev C l A o (.ref (I (.ob c))))(lv:jJ c t.pf .code≠none)(g:kD C l A es E)(k:C f (.ref (I (.ob c))::E) A R):aB C (.aZ o c f es) l A R:=
 h _ ⟨d_ _ _ _ (aS rfl ((M.ob c lv).1) ((M.ob c lv).2)),g _ k⟩
theorem w3(M:Mem I t Z A)(h:Ev C l A a (.ref (I aD)))(g:Ev C l A i (.int j))(c:cont I t aD=some (.list (cS n f)))(d:n<=bf)(h0:0<=j)(b:j<n):Ev C l A (.aQ a i) (f j):=
 uD h g (M.1 _ _ c) (B fJ d) (B fJ (mA h0 b)) (H7 h0 b)
theorem A1(a:j<l.length):(Zl l)[j]? =some (.int l[j]):=by simp[Zl,a]
theorem cj:(Zl l).length=l.length:=b9 _
theorem j5:Zl l++[.int x]=Zl (l++[x]):=by simp[Zl]
theorem VV(h:Ev C l A a (.ref p))(g:Ev C l A i (.int j))(e:A p=some (.list (Zl xs)))(c:xs.length<=bf)(k:Nat)(d:j=k)(b:k<xs.length):Ev C l A (.aQ a i) (.int xs[k]):=by
 subst d;exact uD h g e (B cj c) (B cj (mA (fE _) (g9.mpr b))) (A1 b)
theorem aiM{C:Cx}{l:aH}{A Z:H}{I:bT->Nat}{t J:T}{Q:Fl->aH->H->Prop}{r:List St}{o i e:a7}{aD:bT}{n:Nat}{f:Int->V}{j:Int}{v:V}(M:Mem I t Z A)(he:Ev C l A e v)(c:Ev C l A o (.ref (I aD)))(hi:Ev C l A i (.int j))(a:cont I t aD=some (.list (cS n f)))(d:n<=bf)(h0:0<=j)(g:j<n)
 (ch:eZ I t J aD (.list (cS n (aW f j v)))) (k:∀b,Mem I J Z b->Ss C r l b Q):Ss C (.fK o i e::r) l A Q:=
 he _ (c _ (hi _ (fh _ _ j _ (ee rfl rfl (M.1 _ _ a) (B fJ d) (B fJ (mA h0 g)) (by refine B ((wq h0))<|k _ (M.set aD a ch.1 ch.2))))))
theorem rY(M:Mem I t Z A)(d:Ev C l A o (.ref (I aD)))(ha:Ev C l A a v)(b:cont I t aD=some (.list E))(e:E.length<bf)(ch:eZ I t J aD (.list (E++[v])))(k:∀c,Mem I J Z c->Ss C r l c Q):Ss C (.expr (.c8 o a)::r) l A Q:=
 d _ ⟨⟨_,rfl,E,M.1 _ _ b⟩,ha _ (cE _ _ (cg rfl (M.1 _ _ b) e (k _ (M.set aD b ch.1 ch.2))))⟩
theorem m4(M:cX c I Z A)(e:Ev C l A o (.ref p))(ha:Ev C l A a v)(b:Z p=some (.list E))(f:E.length<bf)(k:∀d,cX c I (Z.set p (.list (E++[v]))) d->Ss C r l d Q):Ss C (.expr (.c8 o a)::r) l A Q:=
 e _ ⟨⟨_,rfl,E,M.3 _ _ b⟩,ha _ (cE _ _ (cg rfl (M.3 _ _ b) f (k _ (M.dy (.inr ⟨_,b⟩)))))⟩
theorem kA(M:Mem I t Z A)(he:Ev C l A e v)(a:Ev C l A o (.ref (I (.ob c))))(lv:jJ c t.pf .code≠none)(ch:eZ I t J (.at c) (.cM c (gD (kv I t c) n v)))(hh:c.has n=true)(k:∀b,Mem I J Z b->Ss C r l b Q):Ss C (.cV o n e::r) l A Q:=
 he _ (a _ (fh _ c _ _ (ee rfl ((M.ob c lv).1) ((M.ob c lv).2) (by clear a lv ch hh;cases c<;>exact bt rfl) hh (k _ (M.set (.at c) (qx lv) ch.1 ch.2)))))
theorem vJ(M:Mem I t Z A)(he:fX C l A e E)(k:∀a b,Z a=none->Mem I t (Z.set a (.list E)) b->Ss C r (l.set x (.ref a)) b Q):Ss C (.bP x e::r) l A Q:=
 he _ λa ha=>k a _ (M.dP ha) (M.dy (.inl ha))
theorem eX(M:Mem I t Z A)(h:Ev C l A o (.ref (I (.ob c))))(lv:jJ c t.pf .code≠none)(g:kD C l A es E)(k:C f (.ref (I (.ob c))::E) A λY A=>Ss C r l A Q):Ss C (.expr (.aZ o c f es)::r) l A Q:=
 iP M h lv g k
theorem oX(M:Mem I t Z A)(h:Ev C l A o (.ref (I (.ob c))))(lv:jJ c t.pf .code≠none)(g:kD C l A es E)(k:C f (.ref (I (.ob c))::E) A λv A=>Ss C r (l.set x v) A Q):Ss C (.bP x (.aZ o c f es)::r) l A Q:=
 iP M h lv g k
theorem GK(M:Mem I t Z A)(h:Ev C l A o (.ref (I (.ob c))))(lv:jJ c t.pf .code≠none)(g:kD C l A es E)(k:C f (.ref (I (.ob c))::E) A λv A=>Q (.ret v) l A):Ss C (.ret (.aZ o c f es)::r) l A Q:=
 iP M h lv g k
noncomputable abbrev me(I:bT->Nat):V:=.ref (I (.ob .aO))
noncomputable abbrev fU(I:bT->Nat):V:=.ref (I (.ob .heap))
def In(t:T)(j:Int):Prop:=0<=j/\j<=t.n
theorem qm(h:n<=5):n+1<=bf:=aV (Nat.succ_le_succ h) (bt rfl)
theorem eF(M:Mem I t Z A)(h:Ev C l A a (.ref (I aD)))(g:Ev C l A i (.int j))(c:cont I t aD=some (.list (cS (t.n+1) f)))(d:t.n<=5)(e:f j=v)(b:In t j):Ev C l A (.aQ a i) v:=
 aT e (w3 M h g c (qm d) b.1 (Int.lt_add_one_of_le b.2))
theorem VY(M:Mem I t Z A)(h:Ev C l A a (.ref (I aD)))(b:cont I t aD=some (.list (cS (t.n+1) f)))(c:t.n<=5)(e:((t.n:Int)+1)=x):Ev C l A (.b1 .len a) (.int x):=by
 haveI:=oG h (M.1 _ _ b) (B fJ (qm c));rw[fJ]at this;exact aT e this
theorem jt(M:Mem I t Z A)(h:Ev C l A a (.ref (I aD)))(b:cont I t aD=some (.list (Zl xs)))(c:xs.length<=bf)(e:(xs.length:Int)=x):Ev C l A (.b1 .len a) (.int x):=by
 haveI:=oG h (M.1 _ _ b) (B cj c);rw[cj]at this;exact aT e this
theorem kU{C:Cx}{l:aH}{A Z:H}{I:bT->Nat}{t J:T}{Q:Fl->aH->H->Prop}{r:List St}{o i e:a7}{aD:bT}{f:Int->V}{j:Int}{v:V}(M:Mem I t Z A)(he:Ev C l A e v)(c:Ev C l A o (.ref (I aD)))(hi:Ev C l A i (.int j))(d:cont I t aD=some (.list (cS (t.n+1) f)))(g:t.n<=5)(a:In t j)
 (ch:eZ I t J aD (.list (cS (t.n+1) (aW f j v)))) (k:∀b,Mem I J Z b->Ss C r l b Q):Ss C (.fK o i e::r) l A Q:=
 aiM M he c hi d (qm g) a.1 (Int.lt_add_one_of_le a.2) ch k
theorem Fc:(Zl l).set k (.int x)=Zl (l.set k x):=List.map_set.symm
theorem aiN{k:Nat}(M:Mem I t Z A)(he:Ev C l A e (.int x))(c:Ev C l A o (.ref (I aD)))(hi:Ev C l A i (.int k))(a:cont I t aD=some (.list (Zl xs)))(d:xs.length<=bf)(f:k<xs.length)
 (ch:eZ I t J aD (.list (Zl (xs.set k x)))) (q:∀b,Mem I J Z b->Ss C r l b Q):Ss C (.fK o i e::r) l A Q:=
 he _ (c _ (hi _ (fh _ _ _ _ (ee rfl rfl (M.1 _ _ a) (B cj d) (B cj (mA (fE _) (g9.mpr f))) (by simp only[Int.toNat_natCast,Fc];exact q _ (M.set aD a ch.1 ch.2))))))
theorem bY(M:Mem I t Z A)(a:l .X=some (me I))(g:kq (kv I t .aO) n=some w)(hh:Cl.has .aO n=true):Ev C l A (.aC (.var .X) n) w:=fG M (O a) g bb hh
theorem eB(M:Mem I t Z A)(a:l .X=some (fU I))(g:kq (kv I t .heap) n=some w)(hh:Cl.has .heap n=true):Ev C l A (.aC (.var .X) n) w:=fG M (O a) g fB hh
def HQ(n:Nat)(h:List Int)(p:Int->Int):Prop:=Q3
 (h.length<=n)
 (∀(i:Nat) x,h[i]? =some x->1<=x/\x<=n/\p x=i)
 (∀v:Int,0<=v->v<=n->0<=p v->h[(p v).toNat]? =some v)
inductive Hp(t:T):Prop|mk
 (Y:t.n<=5)
 (Y:HQ t.n t.hp t.pl)
 (Y:∀v,In t v->0<=t.ac v/\t.ac v<=gk)
 (Y:0<=t.hs/\t.hs<=gk)
 :Hp t
theorem HQ.swap{n:Nat}{h:List Int}{p:Int->Int}{s a:Nat}{v u:Int}(H:HQ n (h.set s v) (aW p v s))(hs:s<h.length)(g:a≠s)(hu:h[a]? =some u):HQ n ((h.set s u).set a v) (aW (aW p u s) v a)/\1<=u/\u<=n/\u≠v/\∀x,0<=aW (aW p u s) v a x↔0<=aW p v s x:=by
 refine gn λG=>?_;haveI I:=H.1;haveI j:=H.2;haveI J:=H.3;have o:(h.set s v)[a]? =some u:=B (List.getElem?_set_ne (cQ g)) hu;haveI r:(h.set s v)[s]? =some v:=List.getElem?_set_self hs;refine br (j a u o) λt y c=>br (j s v r) λv1 v2 v3=>G ?_;have ne:u≠v:=λe=>by rw[e,v3]at c;exact g (Int.ofNat.inj c.symm)
 have pu:p u=a:=by rw[b7 ne]at c;exact c
 haveI al:=(fR.mp hu).1;have A:((h.set s u).set a v)[a]? =some v:=List.getElem?_set_self (B List.length_set al);have C:((h.set s u).set a v)[s]? =some u:=by rw[List.getElem?_set_ne g,List.getElem?_set_self hs]
 refine(e_ ⟨by refine B List.length_set ?_;refine B List.length_set ?_;rwa[List.length_set]at I,λi x e=>?_,λx x0 d e=>?_⟩ t y ne λx=>?_)
 .refine dx (i=a) (λq=>?_) (λq=>?_)
  .have q:=q.symm;subst q;replace e:=A▸e;refine so e λe=>?_;subst e;exact aS v1 v2 cU
  .refine dx (i=s) (λb=>?_) (λb=>?_)
   .haveI b:=b.symm;subst b;replace e:=C▸e;refine so e λe=>?_;subst e;exact aS t y ((b7 ne).trans cU)
   .rw[List.getElem?_set_ne (cQ q),List.getElem?_set_ne (cQ b)]at e;have k:=j i x (B (List.getElem?_set_ne (cQ b)) e);haveI d:=k.1;haveI L:=k.2.1;haveI f:=k.2.2;haveI E:x≠v:=λz=>by rw[z,cU]at f;exact b (Int.ofNat.inj f.symm)
    haveI l:x≠u:=λz=>by rw[z,c]at f;exact q (Int.ofNat.inj f.symm)
    refine aS d L ?_;rw[b7 E,b7 l];rwa[b7 E]at f
 .refine dx (x=v) (λq=>?_) λq=>?_
  .haveI q:=q.symm;clear x0 d e;subst q;simp only[cU,Int.toNat_natCast];exact A
  .rw[b7 q]at e⊢;refine dx (x=u) (λb=>?_) (λb=>?_)
   .haveI b:=b.symm;clear d e q;subst b;simp only[cU,Int.toNat_natCast];exact C
   .rw[b7 b]at e⊢;haveI z:=J x x0 d (B (b7 q) e);replace z:=(b7 q)▸z;haveI zs:(p x).toNat≠s:=λw=>by rw[w,r]at z;exact q (dH z).symm
    haveI m:(p x).toNat≠a:=λw=>by rw[w,o]at z;exact b (dH z).symm
    rw[List.getElem?_set_ne (cQ zs)]at z;refine B (List.getElem?_set_ne (cQ m)) ?_;refine B (List.getElem?_set_ne (cQ zs)) ?_;exact z
 .refine dx (x=v) (λq=>?_) (λq=>?_)
  .have q:=q.symm;subst q;exact B cU<|B cU<|⟨λY=>fE _,λY=>fE _⟩
  .rw[b7 q,b7 q];refine dx (x=u) (λb=>?_) (λb=>?_)
   .haveI b:=b.symm;subst b;exact B cU<|B pu<|⟨λY=>fE _,λY=>fE _⟩
   .rw[b7 b]
theorem HQ.yD{n:Nat}{h:List Int}{p:Int->Int}(H:HQ n h p){s:Nat}{v:Int}(e:h[s]? =some v):h.set s v=h/\aW p v s=p:=by
 haveI a:=fR.mp e;haveI q:=a.1;haveI b:=a.2;refine⟨aT b (List.set_getElem_self q),funext λx=>?_⟩;rcases cY (x=v)with z|z
 .simp only[z,cU,(H.2 s v e).2.2]
 .exact b7 z
theorem OR(M:Mem I t Z A)(a:t.n<=5)(q:Q (.int t.n) A):aA (k+1) .vW [fU I] A Q:=
 ⟨_,rfl,cI (dz (VY ‹_› (eB M rfl rfl rfl) rfl ‹_› rfl) a8 (Int.add_sub_cancel _ _) trivial) q⟩
theorem Nz(M:Mem I t Z A)(a:t.n<=5)(b:In t v)(q:Q (.bool (decide (0<=t.pl v))) A):aA (k+1) .Cz [fU I,.int v] A Q:=
 ⟨_,rfl,cI (eP (eF M (eB M rfl rfl rfl) (O rfl) rfl ‹_› rfl ‹_›) a8 rfl) q⟩
theorem Dk(M:Mem I t Z A)(a:t.n<=5)(c:In t v)(hu:In t u):∃b,∀Q:V->H->Prop,Q (.bool b) A->aA (k+1) .vV [fU I,.int v,.int u] A Q:=
 dx (t.ac v=t.ac u) (λe=>⟨_,λQ q=>⟨_,rfl,bL (di (eF M (eB M rfl rfl rfl) (O rfl) rfl ‹_› rfl ‹_›) (eF M (eB M rfl rfl rfl) (O rfl) rfl ‹_› rfl ‹_›) rfl) (λz=>by rw[cO e]at z;exact nf z) λY=>d9 (cI (eP (O rfl) (O rfl) rfl) q)⟩⟩)
  λe=>⟨_,λQ q=>⟨_,rfl,bL (di (eF M (eB M rfl rfl rfl) (O rfl) rfl a rfl c) (eF M (eB M rfl rfl rfl) (O rfl) rfl a rfl hu) rfl) (λY=>cI (eP (eF M (eB M rfl rfl rfl) (O rfl) rfl a rfl c) (eF M (eB M rfl rfl rfl) (O rfl) rfl a rfl hu) rfl) q) λz=>by rw[dp e]at z;exact nt z⟩⟩
noncomputable def T.dF(t:T)(s:Nat)(v:Int):T:=(t.fT (t.hp.set s v)).rT (aW t.pl v s)
theorem yz(M:Mem I t Z A)(a:t.n<=5)(c:t.hp.length<=t.n)(hs:s<t.hp.length)(d:In t v)(q:∀b,Mem I (t.dF s v) Z b->Q .none b):aA (k+1) .qP [fU I,.int s,.int v] A Q:=by
 refine⟨_,rfl,aiN M (O rfl) (eB M rfl rfl rfl) (O rfl) rfl ?_ hs zH λA M=>?_⟩
 .exact aV c (aV a (bt rfl))
 .exact kU M (O rfl) (eB M rfl rfl rfl) (O rfl) rfl a d zI λA M=>q _ M
theorem kh{k:Nat}(M:Mem I t Z A)(h:Ev C l A a (.ref (I aD)))(g:Ev C l A i (.int k))(b:cont I t aD=some (.list (Zl xs)))(c:xs.length<=bf)(e:xs[k]? =some x):Ev C l A (.aQ a i) (.int x):=by
 obtain⟨d,f⟩:=fR.mp e;exact aT f (VV h g (M.1 _ _ b) c k rfl d)
theorem bg(h:a<=n)(g:n<=5):a<=bf:=aV h (aV g (bt rfl))
theorem mR{aa a:H->Prop}(h:Ev C l A c (.bool b))(d:b=true->aa A)(e:b=false->a A):aB C c l A λv A=>∃t,v=.bool t/\(t=true->aa A)/\(t=false->a A):=h _ (cR b (aS rfl d e))
theorem wz(h:b≠0/\-4611686018427387904<=b/\b<=4611686018427387904):qS .fdiv a b:=h
noncomputable def T.hq(t:T)(h:List Int)(p:Int->Int):T:={t with hp:=h,pl:=p}
def kH(t:T)(h:List Int)(p:Int->Int)(s:Nat)(v:Int):Prop:=Q5
 (HQ t.n (h.set s v) (aW p v s))
 (s<h.length)
 (t.n<=5)
 (∀x,0<=aW p v s x↔0<=t.pl x)
 (h.length=t.hp.length)
theorem kH.le(H:kH t h p s v):h.length<=t.n:=by haveI:=H.1.1;rwa[List.length_set]at this
theorem kH.bf(H:kH t h p s v):h.length<=bf:=bg H.le H.3
theorem kH.v{v:Int}(H:kH t h p s v):In t v:=by
 haveI:=H.1.2 s v (List.getElem?_set_self H.2);exact⟨fp (by decide) this.1,this.2.1⟩
theorem kH.u{v u:Int}(H:kH t h p s v)(b:a≠s)(hu:h[a]? =some u):In t u:=by
 haveI:=(H.1.swap H.2 b hu).2;exact⟨fp (by decide) this.1,this.2.1⟩
theorem kH.swap{t:T}{h:List Int}{p:Int->Int}{s a:Nat}{v u:Int}(H:kH t h p s v)(b:a≠s)(hu:h[a]? =some u):kH t (h.set s u) (aW p u s) a v:=
 ⟨(H.1.swap H.2 b hu).1,B List.length_set ((fR.mp hu).1),H.3,λx=>((H.1.swap H.2 b hu).2.2.2.2 x).trans (H.4 x),B List.length_set H.5⟩
theorem Hp.xS(H:Hp t)(e:t.hp[s]? =some v):kH t t.hp t.pl s v:=
 ⟨by simp only[(H.2.yD e).1,(H.2.yD e).2];exact H.2,(fR.mp e).1,H.1,λx=>by rw[(H.2.yD e).2],rfl⟩
def p8(t:T)(h:List Int)(p:Int->Int):Prop:=Q3
 (HQ t.n h p)
 (∀x,0<=p x↔0<=t.pl x)
 (h.length=t.hp.length)
theorem ajs(s:Nat)(h:0<s):Int.fdiv ((s:Int)-1) 2=(((s-1)/2:Nat):Int):=by
 refine(Int.fdiv_eq_ediv_of_nonneg _ (by decide)).trans ?_;lia
theorem Qb(M:Mem I t Z A)(hp:Hp t)(hs:s<t.hp.length)(q:∀e h p,Mem I (t.hq h p) Z e->p8 t h p->Q .none e):aA (k+2) .CD [fU I,.int s] A Q:=by
 haveI c:=dZ hs;generalize t.hp[s]=v at c;have bZ:∀l A s h p,l .X=some (fU I)->l .var=some (.int v)->l .cT=some (.int s)->Mem I (t.hq h p) Z A->kH t h p s v->
  Ss (aA (k+1)) [.expr (.aZ (.var .X) .heap .qP [.var .cT,.var .var])] l A λfl Y A=>Q fl.val A:=λl A s h p d f g M H=>
   eX M (O ‹_›) fB (aI (O ‹_›) (aI (O ‹_›) aX)) (yz M H.3 H.le H.2 H.v λe M=>q _ _ _ M ⟨H.1,H.4,(List.length_set).trans H.5⟩)
 refine⟨_,rfl,dG (kh M (eB M rfl rfl rfl) (O rfl) rfl (hp.xS c).bf c) ?_⟩;refine pY (λm l A=>∃(s:Nat) (h:List Int) (p:Int->Int),l .X=some (fU I)/\l .var=some (.int v)/\l .cT=some (.int s)/\m=s/\Mem I (t.hq h p) Z A/\kH t h p s v) s (d_ s t.hp t.pl (ee rfl rfl rfl rfl M (hp.xS c))) ?_;intro m l A i R r P w x Y;refine gn λy=>d7 i λs h p j=>iM j λd f g C M H=>?_;clear j;try clear i
 subst C;refine y<|mR (eP (O ‹_›) a8 rfl) (λz=>?_) λY=>bZ l A m h p d f g M H;have hm:=g9.mp (dQ z);have hq:(m-1)/2<m:=df (Nat.div_le_self ..) (Nat.sub_lt hm (by decide));haveI n:(m-1)/2≠m:=Nat.ne_of_lt hq
 have E:(m-1)/2<h.length:=Nat.lt_trans hq H.2;haveI hu:=dZ E;generalize h[(m-1)/2]=u at hu;haveI G:=H.bf;haveI c:=H.v;haveI o:=H.u n hu;refine dG (dz (dz (O ‹_›) a8 rfl trivial) a8 (ajs m hm) (wz (by decide)))<|az (Dk (k:=k) M H.3 c o) λb J=>?_
 have li:∀l:aH,l .X=some (fU I)->l .above=some (.int ((m-1)/2:Nat))->Ev (aA (k+1)) l A (.aQ (.aC (.var .X) .heap) (.var .above)) (.int u):=λl a b=>kh M (eB M ‹_› rfl rfl) (O ‹_›) rfl G hu;refine bL (oH (gA M (O ‹_›) fB (aI (O ‹_›) (aI (li _ d rfl) aX)) J) rfl) (λY=>GG (x _ _ (bZ _ _ m h p d f g M H))) λY=>d9<|eX M (O ‹_›) fB (aI (O ‹_›) (aI (li _ d rfl) aX)) (yz M H.3 H.le H.2 o λe M=>?_);refine dG (O rfl) (d9 (w _ _ ?_).1);exact r ((m-1)/2) _ _ hq (d_ _ _ _ (ee d f rfl rfl M (H.swap n hu)))
theorem II(M:Mem I (t.hq h p) Z A)(g:kH t h p s v):∃b:Int,(b= -1\/∃j:Nat,b=j/\s≠j/\j<h.length/\h.length-j<h.length-s)/\∀Q:V->H->Prop,Q (.int b) A->aA (k+2) .Cw [fU I,.int s] A Q:=by
 have o:=g.bf;have m:∀j,s<j->j<h.length->s≠j/\j<h.length/\h.length-j<h.length-s:=λj a b=>⟨Nat.ne_of_lt a,b,Nat.sub_lt_sub_left (Nat.lt_trans a b) a⟩;haveI s1:s<2*s+1:=Nat.lt_succ_of_le (Nat.le_mul_of_pos_left s (by decide))
 haveI bm:qS .mul 2 s:=.inl ⟨by decide,by decide⟩
 have i:∀l:aH,l .cT=some (.int s)->Ev (aA (k+1)) l A (.cJ .add (.cJ .mul (.int 2) (.var .cT)) (.int 1)) (.int (2*s+1:Nat)):=λl a=>dz (dz a8 (O ‹_›) rfl bm) a8 rfl trivial;rcases Nat.lt_or_ge (2*s+1) h.length with q1|q1
 .haveI e:=dp λz=>Nat.not_le_of_lt q1 (Int.ofNat_le.mp z);refine Or.elim (Nat.lt_or_ge (2*s+2) h.length) (λf=>?_) (λf=>?_)
  .haveI n:=cO (g9.mpr f);haveI hu:=dZ f;haveI hw:=dZ q1;generalize h[2*s+2]=u at hu;generalize h[2*s+1]=w at hw;haveI r:=m _ (Nat.lt_succ_of_lt s1) f;haveI x:=m _ s1 q1;refine az (Dk (k:=k) M g.3 (g.u (cQ r.1) hu) (g.u (cQ x.1) hw)) λb C=>?_;haveI y:∀l:aH,l .X=some (fU I)->l .right=some (.int (2*s+2:Nat))->l .left=some (.int (2*s+1:Nat))->Ev (aA (k+1)) l A (.and [.dw .lt (.var .right) (.b1 .len (.aC (.var .X) .heap)),.aZ (.var .X) .heap .vV [.aQ (.aC (.var .X) .heap) (.var .right),.aQ (.aC (.var .X) .heap) (.var .left)]]) (.bool (true&&(b&&true))):=
    λl a c d=>gT (dC (eP (O ‹_›) (jt M (eB M ‹_› rfl rfl) rfl ‹_› rfl) n) λY=>dC (gA M (O ‹_›) fB (aI (kh M (eB M ‹_› rfl rfl) (O ‹_›) rfl o hu) (aI (kh M (eB M ‹_› rfl rfl) (O ‹_›) rfl o hw) aX)) C) λY=>hO)
   cases b with
   |true=>exact⟨_,.inr ⟨2*s+2,rfl,r⟩,λQ q=>⟨_,rfl,dG (i _ rfl) (bL (eP (O rfl) (jt M (eB M rfl rfl rfl) rfl ‹_› rfl) e) nf λY=>d9 (dG (dz (O rfl) a8 rfl trivial) (bL (y _ rfl rfl rfl) (λY=>cI (O rfl) q) nt)))⟩⟩
   |false=>exact⟨_,.inr ⟨2*s+1,rfl,x⟩,λQ q=>⟨_,rfl,dG (i _ rfl) (bL (eP (O rfl) (jt M (eB M rfl rfl rfl) rfl ‹_› rfl) e) nf λY=>d9 (dG (dz (O rfl) a8 rfl trivial) (bL (y _ rfl rfl rfl) nf λY=>d9 (cI (O rfl) q))))⟩⟩
  .haveI n:=dp λz=>Nat.not_le_of_lt (g9.mp z) f;exact⟨_,.inr ⟨2*s+1,rfl,m _ s1 q1⟩,λQ q=>⟨_,rfl,dG (i _ rfl) (bL (eP (O rfl) (jt M (eB M rfl rfl rfl) rfl ‹_› rfl) e) nf λY=>d9 (dG (dz (O rfl) a8 rfl trivial) (bL (b:=false&&true) (gT (dC (eP (O rfl) (jt M (eB M rfl rfl rfl) rfl ‹_› rfl) n) nf)) nf λY=>d9 (cI (O rfl) q))))⟩⟩
 .have e:=cO (Int.ofNat_le.mpr q1);exact⟨_,.inl rfl,λQ q=>⟨_,rfl,dG (i _ rfl) (bL (eP (O rfl) (jt M (eB M rfl rfl rfl) rfl ‹_› rfl) e) (λY=>cI (ig a8 rfl) q) nt)⟩⟩
theorem Qu(M:Mem I t Z A)(hp:Hp t)(hs:s<t.hp.length)(q:∀f h p,Mem I (t.hq h p) Z f->p8 t h p->Q .none f):aA (k+3) .CE [fU I,.int s] A Q:=by
 haveI a:=dZ hs;generalize t.hp[s]=v at a;have bZ:∀l A s h p,l .X=some (fU I)->l .var=some (.int v)->l .cT=some (.int s)->Mem I (t.hq h p) Z A->kH t h p s v->
  Ss (aA (k+2)) [.expr (.aZ (.var .X) .heap .qP [.var .cT,.var .var])] l A λfl Y A=>Q fl.val A:=λl A s h p g i n M H=>
  eX M (O ‹_›) fB (aI (O ‹_›) (aI (O ‹_›) aX)) (yz M H.3 H.le H.2 H.v λf M=>q _ _ _ M ⟨H.1,H.4,(List.length_set).trans H.5⟩)
 refine az (II (k:=k) M (hp.xS a)) λb y=>?_;haveI o:=y.1;haveI e:=y.2;refine⟨_,rfl,dG (kh M (eB M rfl rfl rfl) (O rfl) rfl (hp.xS a).bf a) (dG (gA M (O rfl) fB (aI (O rfl) aX) e) ?_)⟩;refine pY (λm l A=>∃(s:Nat) (h:List Int) (p:Int->Int) (b:Int),l .X=some (fU I)/\l .var=some (.int v)/\l .cT=some (.int s)/\l .below=some (.int b)/\m=h.length-s/\Mem I (t.hq h p) Z A/\kH t h p s v/\
  (b= -1\/∃j:Nat,b=j/\s≠j/\j<h.length/\h.length-j<h.length-s)) (t.hp.length-s) (fh s t.hp t.pl b (o8 rfl rfl rfl rfl rfl M (hp.xS a) o)) ?_
 intro m l A z R N P W p2 Y;refine gn λkG=>gz z λs h p b C=>tY C λg i n l4 Ei M H o=>?_;clear C;try clear z
 subst Ei;refine kG ?_;haveI r:=H.bf;haveI iv:=H.v;rcases o with rfl|⟨j,rfl,E,w,x⟩
 .exact mR (b:=false&&true) (gT (dC (eP (O ‹_›) a8 rfl) nf)) nf λY=>bZ l A s h p g i n M H
 .haveI hu:=dZ w;generalize h[j]=u at hu;haveI G:=H.u (cQ E) hu;refine az (Dk (k:=k+1) M H.3 G iv) λc e=>?_;haveI li:Ev (aA (k+2)) l A (.aQ (.aC (.var .X) .heap) (.var .below)) (.int u):=kh M (eB M ‹_› rfl rfl) (O ‹_›) rfl r hu;refine mR (gT (dC (eP (O ‹_›) a8 (cO (fE j))) λY=>dC (gA M (O ‹_›) fB (aI li (aI (O ‹_›) aX)) e) λY=>hO)) (λY=>?_) λY=>bZ l A s h p g i n M H;refine eX M (O ‹_›) fB (aI (O ‹_›) (aI li aX)) (yz M H.3 H.le H.2 G λf M=>dG (O ‹_›) ?_);haveI J:=H.swap (cQ E) hu;refine az (II (k:=k) (t:=t) M J) λd L=>?_;haveI hd:=L.1;haveI e:=L.2;refine dG (gA M (O ‹_›) fB (aI (O rfl) aX) e) (d9 (W _ _ ?_).1);haveI el:(h.set s u).length=h.length:=List.length_set;exact N _ _ _ (el▸x) (fh _ _ _ _ (o8 g i rfl rfl rfl M J hd))
theorem pW{n:Nat}{l:List Int}(d:l.Nodup)(h:∀x∈l,1<=x/\x<=n):l.length<=n:=by
 haveI:=d.length_le_of_subset (l₂:=(List.range n).map λ(i:Nat)=>(i:Int)+1) λx a=>cW.mpr ⟨(x-1).toNat,List.mem_range.mpr ((Int.toNat_lt (Int.sub_nonneg_of_le (h x a).1)).mpr (Int.lt_of_lt_of_le (Int.sub_lt_self x (by decide)) (h x a).2)),by rw[Int.toNat_of_nonneg (Int.sub_nonneg_of_le (h x a).1),Int.sub_add_cancel]⟩
 rwa[b9,mH]at this
theorem HQ.nd(a:HQ n h p):h.Nodup:=
 List.pairwise_iff_getElem.mpr λi j hi b lt e=>Nat.ne_of_lt lt (Int.ofNat.inj ((a.2 i _ (dZ hi)).2.2.symm.trans (B e ((a.2 j _ (dZ b)).2.2))))
theorem HQ.mem(f:HQ n h p)(g:x∈h):1<=x/\x<=n/\0<=p x:=by
 refine az (List.mem_iff_getElem?.mp g) λi e=>?_;haveI d:=f.2 i x e;haveI a:=d.1;haveI b:=d.2.1;haveI c:=d.2.2;exact aS a b (B c (fE i))
theorem HQ.push{n:Nat}{h:List Int}{p:Int->Int}(c:HQ n h p){v:Int}(d:1<=v)(f:v<=n)(j:¬0<=p v):HQ n (h++[v]) (aW p v h.length):=by
 have nm:=λq=>j (c.mem q).2.2;haveI nd:(h++[v]).Nodup:=jB.mpr (aS c.nd (by simp) λa ha b k e=>nm (cL.mp k▸e▸ha))
 refine⟨pW nd λx l=>?_,λi x e=>?_,λx x0 g e=>?_⟩
 .rcases dT.mp l with q|q
  .exact⟨(c.mem q).1,(c.mem q).2.1⟩
  .exact B (cL.mp q) (⟨d,f⟩)
 .refine Or.elim (Nat.lt_or_ge i h.length) (λq=>?_) (λq=>?_)
  .replace e:=(lR q)▸e;haveI:=c.2 i x e;exact aS this.1 this.2.1 (B (b7 λ(z:x=v)=>nm (z▸jq e)) this.2.2)
  .replace e:=(lS q)▸e;cases z:i-h.length with
   |succ m=>replace e:=z▸e;exact nn e
   |zero=>
    replace e:=z▸e;injection e with e;subst e
    exact(aS d f (by refine B cU ?_;exact(Nat.le_antisymm (Nat.sub_eq_zero_iff_le.mp z) q)▸rfl))
 .refine dx (x=v) (λq=>?_) λq=>?_
  .haveI q:=q.symm;clear x0 g e;subst q;simp only[cU,Int.toNat_natCast,lS (dR _),Nat.sub_self];rfl
  .rw[b7 q]at e⊢;haveI:=c.3 x x0 g e;exact B (lR (fR.mp this).1) this
theorem Hp.le(a:Hp t):t.hp.length<=bf:=bg a.2.1 a.1
theorem PT{v:Int}(M:Mem I t Z A)(hp:Hp t)(d:1<=v)(f:v<=t.n)(q:∀c h p,Mem I (t.hq h p) Z c->HQ t.n h p->(∀x,0<=p x↔(0<=t.pl x\/x=v))->Q .none c):aA (k+4) .CA [fU I,.int v] A Q:=by
 have g:In t v:=⟨fp (by decide) d,f⟩
 haveI b:=hp.1;refine⟨_,rfl,bL (gA M (O rfl) fB (aI (O rfl) aX) λQ q=>Nz M b g q) (λz=>cI ki (q _ _ _ M hp.2 λx=>⟨.inl,λw=>w.elim id λe=>B e (dQ z)⟩)) λz=>d9 ?_⟩;haveI hq:=hp.2.push d f (gZ z);have i:t.hp.length<bf:=df (aV hp.2.1 b) (iV (bt rfl));haveI r:(t.hp++[v]).length<=bf:=B cx i;haveI o:(((t.hp++[v]).length):Int)-1=t.hp.length:=B cx (Int.add_sub_cancel t.hp.length 1);have j:∀(s:bT->Nat) A l p,l .X=some (fU I)->Mem I (t.hq (t.hp++[v]) p) Z A->Ev (aA (k+3)) l A (.cJ .sub (.b1 .len (.aC (.var .X) .heap)) (.int 1)) (.int t.hp.length):=λY A l p a M=>
  dz (jt ‹_› (fG M (O ‹_›) rfl fB rfl) rfl ‹_› rfl) a8 o trivial
 refine rY M (eB M rfl rfl rfl) (O rfl) rfl (B cj i) (B j5 zH) λA M=>?_;refine kU M (j I _ _ t.pl rfl M) (eB M rfl rfl rfl) (O rfl) rfl b g zI λA M=>?_;refine eX M (O rfl) fB (aI (j I _ _ _ rfl M) aX) (Qb M ⟨b,hq,hp.3,hp.4⟩ (by refine B cx ?_;exact k5 _) λc h p M m=>q _ _ _ M m.1 λx=>(m.2 x).trans ?_)
 rcases cY (x=v)with e|e
 .haveI e:=e.symm;subst e;exact⟨λY=>.inr rfl,λY=>by show 0<=aW _ _ _ _;exact B cU (fE _)⟩
 .show 0<=aW _ _ _ _↔_;exact B (b7 e) (⟨.inl,λz=>z.resolve_right e⟩)
theorem HQ.ahi{n:Nat}{p:Int->Int}{b:Int}(a:HQ n [b] p):HQ n [] (aW p b (-1)):=
 ⟨fw _,λi x e=>nn e,λv v0 v1 e=>by
   refine dx (v=b) (λq=>?_) λq=>?_
   .rw[q,cU]at e;exact absurd e (by decide)
   .rw[b7 q]at e;have z:=a.3 v v0 v1 e;cases h:(p v).toNat with
    |zero=>rw[h]at z;exact absurd (dH z).symm q
    |succ m=>replace z:=h▸z;exact nn z⟩
theorem HQ.qz{n:Nat}{p:Int->Int}{b w:Int}{r:List Int}(a:HQ n (b::(r++[w])) p):HQ n (w::r) (aW (aW p b (-1)) w (0:Nat))/\0<=p w/\w≠b:=by
 have nd:=jb.mp a.nd;haveI f:=jB.mp nd.2;have g:w≠b:=λe=>nd.1 (aT e (iW _ (jo w)));have hw:=a.mem (cP b (iW r (jo w)));refine aS ⟨?_,λi x e=>?_,λv v0 v1 e=>?_⟩ hw.2.2 g
 .haveI:=a.1;rw[lQ,cx]at this;exact Nat.le_of_succ_le this
 .cases i with
  |zero=>injection e with e;subst e;exact aS hw.1 hw.2.1 cU
  |succ j=>
   haveI e:r[j]? =some x:=e;haveI d:=jq e;haveI:=a.2 (j+1) x (by rw[List.getElem?_cons_succ,lR (fR.mp e).1];exact e)
   refine aS this.1 this.2.1 ?_;rw[b7 λq=>f.2.2 x d w (jo w) q,b7 λ(q:x=b)=>nd.1 (q▸lO _ d)];exact this.2.2
 .refine dx (v=w) (λq=>?_) λq=>?_
  .rw[q,cU];rfl
  .rw[b7 q]at e⊢;refine dx (v=b) (λc=>?_) λc=>?_
   .rw[c,cU]at e;exact absurd e (by decide)
   .rw[b7 c]at e⊢;have z:=a.3 v v0 v1 e;cases h:(p v).toNat with
    |zero=>rw[h]at z;exact absurd (dH z).symm c
    |succ m=>
     rw[h]at z;haveI z:(r++[w])[m]? =some v:=z;simp only[List.getElem?_cons_succ];rcases Nat.lt_or_ge m r.length with l|l
     .rwa[lR l]at z
     .rw[lS l]at z;exact absurd (cL.mp (jq z)) q
theorem QL(M:Mem I t Z A)(c:Ev C l A o (.ref (I aD)))(a:cont I t aD=some (.list (Zl (ys++[w]))))(d:ys.length<bf)(ch:eZ I t J aD (.list (Zl ys)))(k:∀b,Mem I J Z b->Ss C r (l.set x (.int w)) b Q):Ss C (.bP x (.qz o)::r) l A Q:=
 c _ (fF ⟨_,rfl,_,M.1 _ _ a⟩ (d_ _ (Zl ys) (.int w) (cg rfl ((M.1 _ _ a).trans (aP (λy=>some (bN.list y)) j5.symm)) (B cj d) (k _ (M.set aD a ch.1 ch.2)))))
theorem PO(M:Mem I t Z A)(hp:Hp t)(s:t.hp=[]->Q (.int 0) A)(q:∀i h p (b:Int),Mem I (t.hq h p) Z i->HQ t.n h p->1<=b->b<=t.n->h.length<t.hp.length->(∀x,0<=p x↔(0<=t.pl x/\x≠b))->Q (.int b) i):aA (k+4) .yU [fU I] A Q:=by
 haveI d:=hp.1;have f:=hp.le;cases hh:t.hp with
 |nil=>exact⟨_,rfl,bL (di (jt ‹_› (eB M rfl rfl rfl) rfl ‹_› rfl) a8 (by refine B hh ?_;rfl)) (λY=>cI a8 (s hh)) nt⟩
 |cons b r=>
  haveI a:=hp.2;replace a:=hh▸a;have c:=a.mem (bE ..);have ib:In t b:=⟨fp (by decide) c.1,c.2.1⟩
  have j:∀x,0<=aW t.pl b (-1) x↔(0<=t.pl x/\x≠b):=λx=>by
   refine dx (x=b) (λe=>?_) λe=>?_
   .haveI e:=e.symm;subst e;exact B cU (⟨λz=>absurd z (by decide),λz=>absurd rfl z.2⟩)
   .exact B (b7 e) (⟨λz=>⟨z,e⟩,λz=>z.1⟩)
  haveI u:(decide ((t.hp.length:Int)=0) !=false)=false:=by refine B hh ?_;rfl
  haveI v:t.hp[0]? =some b:=by refine B hh ?_;rfl
  refine⟨_,rfl,bL (di (jt ‹_› (eB M rfl rfl rfl) rfl ‹_› rfl) a8 u) nf λY=>d9 (dG (kh M (eB M rfl rfl rfl) a8 rfl f v) ?_)⟩;rcases List.eq_nil_or_concat r with rfl|⟨r',w,rfl⟩
  .refine QL (aD:=.hp) (ys:=[]) M (eB M rfl rfl rfl) (aP (λy=>some (bN.list (Zl y))) hh) (bt rfl) zH λA M=>kU M (ig a8 rfl) (eB M rfl rfl rfl) (O rfl) rfl d ib zI λA M=>?_;haveI G:([]).length<=bf:=fw _;exact bL (eP (jt ‹_› (eB M rfl rfl rfl) rfl ‹_› rfl) a8 rfl) nf λY=>d9 (cI (O rfl) (q _ [] _ _ M a.ahi c.1 c.2.1 (B hh (Nat.zero_lt_succ _)) j))
  .rw[List.concat_eq_append]at hh a;refine br a.qz λl w0 C=>?_;have m:r'.length+1<t.hp.length:=by simp only[hh,lQ,cx];exact k5 _
   haveI g:=m;refine QL (aD:=.hp) (ys:=b::r') M (eB M rfl rfl rfl) (aP (λy=>some (bN.list (Zl y))) hh) (j_ m f) zH λA M=>kU M (ig a8 rfl) (eB M rfl rfl rfl) (O rfl) rfl d ib zI λA M=>?_;haveI o:=l.2 0 w rfl;haveI E:decide ((0:Int)< ((b::r').length))=true:=cO (Int.natCast_pos.mpr (Nat.zero_lt_succ _));haveI J:=c9 (j_ g f);refine bL (eP (jt ‹_› (fG M (by exact O rfl) rfl fB rfl) rfl ‹_› rfl) a8 E) (λY=>?_) nt
   refine eX M (O rfl) fB (aI a8 (aI (O rfl) aX)) (yz M d (c9 (j_ g hp.2.1)) (Nat.zero_lt_succ _) ⟨fp (by decide) o.1,o.2.1⟩ λA M=>?_)
   refine eX (t:=t.hq (w::r') (aW (aW t.pl b (-1)) w (0:Nat))) M (O rfl) fB (aI a8 aX) (Qu (t:=t.hq (w::r') (aW (aW t.pl b (-1)) w (0:Nat))) M ⟨d,l,hp.3,hp.4⟩ (Nat.zero_lt_succ _) λA h p M bN=>d9 (cI (O rfl) (q _ _ _ _ M bN.1 c.1 c.2.1 ?_ λx=>(bN.2 x).trans ?_)))
   .exact B bN.3 g
   .rw[<-j x];refine dx (x=w) (λe=>?_) λe=>?_
    .haveI e:=e.symm;subst e;show 0<=aW _ _ _ _↔_;rw[cU,b7 C];exact⟨λY=>w0,λY=>fE _⟩
    .show 0<=aW _ _ _ _↔_;rw[b7 e]
def PB(t:T)(h:List Int)(p:Int->Int)(x:Int)(m:Nat):Prop:=Q3
 (HQ t.n h p)
 ((x=0/\h=[]/\m=0)\/(1<=x/\x<=t.n/\m=h.length+1))
 (∀y,t.aa y=0->0<=t.pl y->0<=p y\/y=x)
theorem ahj(M:Mem I t Z A)(hp:Hp t)(q:∀g h p (x:Int),Mem I (t.hq h p) Z g->HQ t.n h p->((x=0/\h=[])\/(1<=x/\x<=t.n/\t.aa x=0))->(∀y,t.aa y=0->0<=t.pl y->0<=p y\/y=x)->Q (.int x) g):aA (k+5) .Hl [fU I,.ref (I .aa)] A Q:=by
 refine⟨_,rfl,oX M (O rfl) fB aX ?_⟩;haveI v:=hp.1;have main:∀l A h p x m,l .X=some (fU I)->l .yh=some (.ref (I .aa))->l .var=some (.int x)->Mem I (t.hq h p) Z A->PB t h p x m->Ss (aA (k+4)) [.kY (.and [.dw .gt (.var .var) (.int 0),.eq true (.aQ (.var .yh) (.var .var)) (.int 0)])
  [.bP .var (.aZ (.var .X) .heap .yU [])],.ret (.var .var)] l A λfl Y A=>Q fl.val A:=by
  intro l A h p x m i o w M d;refine pY (λm l A=>∃h p x,l .X=some (fU I)/\l .yh=some (.ref (I .aa))/\l .var=some (.int x)/\Mem I (t.hq h p) Z A/\PB t h p x m) m (d_ h p x (e_ i o w M d)) ?_;intro m l A C R E P G p2 Y;refine gn λkG=>d7 C λh p x J=>eY J λi o w M d=>kG ?_;clear J;try clear C
  rcases d.2 with⟨rfl,rfl,rfl⟩|⟨r,L,rfl⟩
  .exact mR (b:=false&&true) (gT (dC (eP (O ‹_›) a8 rfl) nf)) nf λY=>cI (O ‹_›) (q _ _ _ _ M d.1 (.inl ⟨rfl,rfl⟩) d.3)
  .haveI ix:In (t.hq h p) x:=⟨fp (by decide) r,L⟩
   refine mR (gT (dC (eP (O ‹_›) a8 (cO (Int.lt_of_lt_of_le (by decide) r))) λY=>dC (di (eF (f:=λj=>.int (t.aa j)) M (O ‹_›) (O ‹_›) rfl v rfl ‹_›) a8 rfl) λY=>hO)) (λz=>?_) λz=>?_
   .have N:t.aa x≠0:=λe=>by replace z:=(cO e)▸z;exact nf z
    refine oX M (O ‹_›) fB aX (PO M ⟨v,d.1,hp.3,hp.4⟩ (λe=>?_) λg W p' b M s b1 b2 hl u=>?_)
    .refine d9 (G _ _ ?_).1;exact E 0 _ _ (Nat.zero_lt_succ _) ⟨h,p,0,i,o,rfl,M,d.1,.inl (aS rfl e rfl),λy a b=>(d.3 y a b).imp id λe=>absurd (aT e a) N⟩
    .refine d9 (G _ _ ?_).1;refine E (W.length+1) _ _ (Nat.succ_lt_succ hl) ⟨W,p',b,i,o,rfl,M,s,.inr (aS b1 b2 rfl),λy a c=>?_⟩;rcases cY (y=b)with e|e
     .exact .inr e
     .exact .inl ((u y).mpr ⟨(d.3 y a c).resolve_right λe=>absurd (aT e a) N,e⟩)
   .haveI ez:t.aa x=0:=jX λe=>by replace z:=(dp e)▸z;exact nt z
    exact cI (O ‹_›) (q _ _ _ _ M d.1 (.inr (aS r L ez)) d.3)
 refine PO M hp (λe=>main _ _ t.hp t.pl 0 0 rfl rfl rfl M ⟨hp.2,.inl (aS rfl e rfl),λy Y a=>.inl a⟩) λg h p b M s b1 b2 Y u=>main _ _ h p b _ rfl rfl rfl M ⟨s,.inr (aS b1 b2 rfl),λy Y a=>?_⟩;rcases cY (y=b)with e|e
 .exact .inr e
 .exact .inl ((u y).mpr ⟨a,e⟩)
theorem p8.trans(a:p8 t h p)(b:p8 (t.hq h p) c p'):p8 t c p':=⟨b.1,λx=>(b.2 x).trans (a.2 x),b.3.trans a.3⟩
theorem ahx(M:Mem I t Z A)(hp:Hp t)(q:∀a h p,Mem I (t.hq h p) Z a->p8 t h p->Q .none a):aA (k+4) .CB [fU I] A Q:=by
 haveI s:=hp.le;haveI e:qV .sub (qV .fdiv t.hp.length 2) 1=((t.hp.length/2:Nat))-1:=aP (·-1) (Int.fdiv_eq_ediv_of_nonneg _ (by decide))
 refine⟨_,rfl,dG (dz (dz (jt ‹_› (eB M rfl rfl rfl) rfl ‹_› rfl) a8 rfl (wz (by decide))) a8 e trivial) ?_⟩
 refine pY (λm l A=>∃h p,l .X=some (fU I)/\l .cT=some (.int (m-1))/\m<=t.hp.length/\Mem I (t.hq h p) Z A/\p8 t h p) (t.hp.length/2) ⟨t.hp,t.pl,rfl,rfl,Nat.div_le_self _ _,M,hp.2,λY=>Iff.rfl,rfl⟩ ?_;intro m l A b R f P g Y Y;refine gn λj=>cF b λh p c=>eY c λn d lm M bN=>j ?_;clear c;try clear b
 refine mR (eP (O ‹_›) a8 rfl) (λz=>?_) λY=>d9 (q _ _ _ M bN);cases m with
 |zero=>exact absurd (dQ (p:=(0:Int)<=0-1) z) (by decide)
 |succ m=>
  have d:=d.trans (aP (λi=>some (V.int i)) (Int.add_sub_cancel m 1));refine eX M (O ‹_›) fB (aI (O ‹_›) aX) (Qu M ⟨hp.1,bN.1,hp.3,hp.4⟩ (by refine bN.3▸?_;exact lm) λa o p' M r=>?_)
  refine dG (dz (O ‹_›) a8 rfl trivial) (d9 (g _ _ ?_).1);exact f m _ _ (k5 _) (cE o p' (e_ n rfl (Nat.le_of_succ_le lm) M (bN.trans r)))
theorem c_(h:Q .next l A):Ss C [] l A (Nx C [] Q):=h
theorem GI(M:Mem I t Z A)(he:fX C l A e E)(j:∀bj h,Mem I t bj h->Ev C l h o (.ref (I (.ob c))))(lv:jJ c t.pf .code≠none)(m:bT.at c≠aD)(hh:c.has n=true)(f:Nat->bT->Nat)
 (u:∀a,f a aD=a) (v:∀a d,d≠aD->f a d=I d) (w:∀a,cont (f a) J aD=some (.list E)) (p:∀a,cont (f a) J (.at c)=some (.cM c (gD (kv I t c) n (.ref a)))) (s:∀a d,d≠aD->d≠.at c->cont (f a) J d=cont I t d)
 (k:∀a h,Mem (f a) J Z h->Ss C r l h Q):Ss C (.cV o n e::r) l A Q:=by
 refine he _ λa ha=>?_;have i:=M.dy (o:=.list E) (.inl ha);have ob:=i.ob c lv;refine j _ _ i _ (fh _ c _ _ (ee rfl ob.1 ob.2 (by clear j lv m hh p s ob;cases c<;>exact bt rfl) hh (k a _ ((i.mv aD (.at c) (qx lv) m H.bC (u a) (v a) (w a) (p a) (s a)).fD λb y g=>?_))))
 haveI:b≠a:=λq=>by replace g:=q▸g;replace g:=(M.dP ha)▸g;exact nn g
 show(if b=a then none else(Z.set a _) b)=_
 exact B (bx this)<|B (H.a6 this)<|B g rfl
theorem sJ(hs:j A):∀(ws a:List V),(∀v∈ws,p6 C (l.set x v) A k (g v))->(∀v∈ws,g v=true->Ev C (l.set x v) A cN (f v))->a.length+ws.length<=bf->Q (a++(ws.filter g).map f) A->
 oD (λv A R=>fA false [x] v l λc=>mK C k c A R) (λv A R=>fA false [x] v l λc=>aB C cN c A R) j ws a A Q
 |[],a,_,_,b,q=>aS hs b (fQ a▸q)
 |v::ws,a,d,he,b,q=>by
  haveI e:=λu hu=>d u (cP v hu);haveI i:=λu hu=>he u (cP v hu);refine⟨hs,_,rfl,d v (bE ..) _ ⟨λh=>⟨_,rfl,he v (bE ..) h _ (sJ hs ws _ e i ?_ ?_)⟩,λh=>sJ hs ws _ e i (aV (Nat.add_le_add_left (Nat.le_succ _) _) b) ?_⟩⟩
  .rw[cx,Nat.add_assoc,Nat.add_comm [f v].length];exact b
  .rw[List.filter_cons_of_pos h]at q;rw[iX];exact q
  .rwa[List.filter_cons_of_neg (h.symm▸gH)]at q
theorem qd(h:Ev C l A it (.ref p))(e:A p=some (.list ws))(b:ws.length<=bf)(c:∀v∈ws,p6 C (l.set x v) A d (g v))(hf:∀v∈ws,g v=true->Ev C (l.set x v) A cN (f v)):fX C l A (.comp cN false [x] .seq [it] d) ((ws.filter g).map f):=
 λQ q=>h _ (cR ws (cg e b b (sJ e ws [] c hf (by simp only[k7,Nat.zero_add];exact b) λa ha=>q a ha)))
theorem sT(h:Ev C l A it (.ref p))(e:A p=some (.list ws))(a:ws.length<=bf)(hf:∀v∈ws,Ev C (l.set x v) A cN (f v)):fX C l A (.comp cN false [x] .seq [it] []) (ws.map f):=by
 haveI:=qd h e a (λY Y=>hO) λv b Y=>hf v b;rwa[List.filter_eq_self.mpr λY Y=>rfl]at this
theorem sS(h:kD C l A es E):fX C l A (.dj es) E:=λY q=>h _ q
theorem R7:(cS n f).map g=cS n λi=>g (f i):=by simp[cS]
theorem C9(h:v∈cS n f):∃i:Int,0<=i/\i<n/\v=f i:=az (cW.mp h) λi a=>aU a λhi e=>⟨i,fE i,g9.mpr (List.mem_range.mp hi),e.symm⟩
theorem afI{n:Nat}{i:Int}(h0:0<=i)(a:i<n):f i∈cS n f:=jq (H7 h0 a)
theorem iD(h:V.int a=V.int b):a=b:=by cases h;rfl
noncomputable def nO(f:Int->Int):V->V|.int x=>.int (f x)|v=>v
noncomputable def T.hr(t:T)(f:Int->Int)(s:Int)(h:List Int)(p:Int->Int):T:={t with ac:=f,hs:=s,hp:=h,pl:=p}
def y8(t:T)(f:Int->Int)(s:Int)(h:List Int)(p:Int->Int):Prop:=Q3
 (p8 t h p)
 (∀v,In t v->0<=f v/\f v<=gk)
 (0<=s/\s<=gk)
theorem Un(h:0<=g)(a:g<=2*gk):1<=Int.fdiv g 1024+1/\Int.fdiv g 1024+1<=4611686018427387904/\∀x,0<=x->x<=g->0<=Int.fdiv x (Int.fdiv g 1024+1)/\Int.fdiv x (Int.fdiv g 1024+1)<=gk:=by
 haveI a:g<=2*1000000000000:=a;refine B (Int.fdiv_eq_ediv_of_nonneg _ (by decide)) ?_
 have c:0<=g/1024:=Int.ediv_nonneg h (by decide)
 refine⟨by lia,by lia,λx x0 d=>?_⟩
 rw[Int.fdiv_eq_ediv_of_nonneg _ (by lia)]
 refine⟨Int.ediv_nonneg x0 (by lia),fp (b:=1024) (Int.le_of_lt_add_one (Int.ediv_lt_of_lt_mul (by lia) ?_)) (by decide)⟩
 simp only[Int.mul_comm,Int.add_mul];lia
set_option tactic.hygienic true in
theorem PY(M:Mem I t Z A)(o:t.n<=5)(hq:HQ t.n t.hp t.pl)(R:∀v,In t v->0<=t.ac v/\t.ac v<=2*gk)(hd:0<=t.hs/\t.hs<=2*gk)
 (q:∀a j f s h p,Mem (BA I a) (t.hr f s h p) Z j->y8 t f s h p->Q .none j):aA (k+5) .CC [fU I] A Q:=by
 refine⟨_,rfl,dG (eB M rfl rfl rfl) ?_⟩;have bZ:∀a l A f s,l .X=some (fU I)->(∀v,In t v->0<=f v/\f v<=gk)->0<=s/\s<=gk->Mem (BA I a) ((t.C4 f).NN s) Z A->Ss (aA (k+4)) [.expr (.aZ (.var .X) .heap .CB [])] l A λfl Y A=>Q fl.val A:=λa l A f s m hf hs M=>
  eX M (O ‹_›) fB aX (ahx M ⟨o,hq,hf,hs⟩ λj h p M bN=>q a _ f s h p M ⟨bN,hf,hs⟩)
 refine QI (λE l j=>j=A/\l .X=some (fU I)/\(∀u∈E,∃i,In t i/\u=V.int (t.ac i))/\∃g,l .xj=some (.int g)/\t.hs<=g/\g<=2*gk/\∀v,In t v->t.ac v<=g\/V.int (t.ac v)∈E) (eB M rfl rfl rfl) (M.1 .ac _ rfl) (B fJ (qm o))
  (cg rfl rfl (λu hu=>(C9 hu).elim λi h=>⟨i,⟨h.1,Int.le_of_lt_add_one h.2.1⟩,h.2.2⟩) (cR _ (cg rfl (g8 _) hd.2 λv d=>.inr (afI d.1 (Int.lt_add_one_of_le d.2))))) (λE l j h=>h.1▸M.1 .ac _ rfl) ?_ ?_
 .intro v E l Y W P p1 Y Y;refine gn λr=>eI W λC m hm xG=>az xG λg LX=>eI LX λl2 g1 g2 g3=>?_;clear xG LX;try clear W
  haveI C:=C.symm;subst C;refine az (hm v (bE ..)) λi xC=>aU xC λhi AA=>?_;clear xC;subst AA;refine r ?_;haveI AO:=λu hu=>hm u (cP _ hu);refine bL (eP (O rfl) (O ‹_›) rfl) (λz=>?_) λz=>?_
  .have z:=dQ z;refine dG (O rfl) (c_ (p1 _ _ ?_).1);refine cg rfl m AO (cR _ (cg rfl (fp g1 (Int.le_of_lt z)) ((R i hi).2) λv d=>?_));rcases g3 v d with w|w
   .exact .inl (fp w (Int.le_of_lt z))
   .exact(dW.mp w).imp (λe=>Int.le_of_eq (iD e)) id
  .have z:=Int.not_lt.mp (gZ z);refine c_ (p1 _ _ ?_).1;refine cg rfl m AO (cR _ (cg l2 g1 g2 λv d=>?_));rcases g3 v d with w|w
   .exact .inl w
   .exact(dW.mp w).imp (λe=>fp (Int.le_of_eq (iD e)) z) id
 .intro l Y AD;refine gn λr=>eI AD λuN m Y xJ=>az xJ λg uO=>eI uO λl2 g1 g2 g3=>?_;try clear AD
  subst uN;refine r ?_;have g0:=fp hd.1 g1;haveI G:=Un g0 g2;have b1:=G.1;haveI b2:=G.2.1;have b3:=G.2.2;refine dG (dz (dz (O ‹_›) eG rfl (wz (by decide))) a8 rfl trivial) ?_
  generalize L:qV .add (qV .fdiv g 1024) 1=b;haveI L:Int.fdiv g 1024+1=b:=L;rw[L]at b1 b2 b3;have bk:∀x,qS .fdiv x b:=λx=>wz (aS (λe=>by rw[e]at b1;exact absurd b1 (by decide)) (fp (by decide) b1) b2)
  have cv:=λv d=>b3 _ (R v d).1 ((g3 v d).resolve_right λz=>gh z);refine GI (aD:=.ac) (J:=t.C4 λi=>Int.fdiv (t.ac i) b) M (sT (eB M ‹_› rfl rfl) (M.1 .ac _ rfl) (B fJ (qm o)) λv d=>?_) (λbj j M=>O ‹_›) fB (bT.ne rfl) rfl (BA I) (λY=>rfl)
   (λa N h=>by cases N<;>first|rfl|exact absurd rfl h) (λa=>aP (λy=>some (bN.list y)) (R7 (f:=λi=>.int (t.ac i)) (g:=nO λx=>Int.fdiv x b)).symm) (λa=>rfl) (λa N h h2=>by cases N<;>first|rfl|exact absurd rfl h|(rename_i c;clear h;cases c<;>first|rfl|exact absurd rfl h2)) λa A M=>?_
  .refine az (C9 d) λi ru=>br ru λY Y uM=>?_;clear ru;subst uM;exact dz (O rfl) (O rfl) rfl (bk _)
  .refine kA M (dz (eB M ‹_› rfl rfl) (O rfl) rfl (bk _)) (O ‹_›) fB DF rfl λA M=>?_;haveI sv:=b3 _ hd.1 g1;haveI e0:Ev (aA (k+4)) (l.set .Cq (.int b)) A (.eq false (.aC (.var .X) .step) (.int 0)) (.bool (decide (Int.fdiv t.hs b=0) !=false)):=di (eB M ‹_› rfl rfl) a8 rfl;refine bL e0 (λY=>?_) λY=>?_
   .exact kA M a8 (O ‹_›) fB DF rfl λA M=>d9 (bZ a _ _ _ 1 m cv (by decide) M)
   .exact d9 (bZ a _ _ _ _ m cv sv M)
def ph(I a:bT->Nat):Prop:=∀aD,aD≠.ac->a aD=I aD
theorem Pk:ph I (BA I a):=λaD h=>by cases aD<;>first|rfl|exact absurd rfl h
theorem Um(M:Mem I t Z A)(hp:Hp t)(b:In t v)(q:∀m j f s h p,ph I m->Mem m (t.hr f s h p) Z j->y8 t f s h p->Q .none j):aA (k+6) .Hj [fU I,.int v] A Q:=by
 have g:=hp.1;have n:∀u,In t u->0<=aW t.ac v (t.ac v+t.hs) u/\aW t.ac v (t.ac v+t.hs) u<=2*gk:=λu hu=>by
  haveI c:=hp.3 u hu;haveI d:=hp.4;refine dx (u=v) (λe=>?_) λe=>?_
  .subst e;exact B cU (⟨Int.add_nonneg c.1 d.1,Int.two_mul gk▸Int.add_le_add c.2 d.2⟩)
  .exact B (b7 e) (⟨c.1,fp c.2 (by decide)⟩)
 refine⟨_,rfl,kU M (dz (eF M (eB M rfl rfl rfl) (O rfl) rfl g rfl b) (eB M rfl rfl rfl) rfl trivial) (eB M rfl rfl rfl) (O rfl) rfl g b UD λA M=>?_⟩;haveI o:Ev (aA (k+5)) ((aH.set (λY=>none) .X (fU I)).set .var (.int v)) A (.dw .gt (.aQ (.aC (.var .X) .lq) (.var .var)) (.aC (.var .X) .oS)) (.bool (decide (gk<aW t.ac v (t.ac v+t.hs) v))):=eP (eF M (eB M rfl rfl rfl) (O rfl) rfl g rfl b) (eB M rfl rfl rfl) rfl;refine bL o (λY=>?_) λz=>?_
 .exact eX M (O rfl) fB aX (PY M g hp.2 n ⟨hp.4.1,fp hp.4.2 (by decide)⟩ λa j f s h p M i=>c_ (q _ _ f s h p Pk M ⟨⟨i.1.1,i.1.2,i.1.3⟩,i.2,i.3⟩))
 .have l:∀u,In t u->0<=aW t.ac v (t.ac v+t.hs) u/\aW t.ac v (t.ac v+t.hs) u<=gk:=λu hu=>⟨(n u hu).1,by
   refine dx (u=v) (λe=>?_) λe=>?_
   .haveI e:=e.symm;subst e;exact Int.not_lt.mp (gZ z)
   .exact B (b7 e) ((hp.3 u hu).2)⟩
  refine bL (gA M (O rfl) fB (aI (O rfl) aX) λQ q=>Nz M g b q) (λz=>?_) λY=>c_ (c_ (q _ _ (aW t.ac v (t.ac v+t.hs)) t.hs t.hp t.pl (λY Y=>rfl) M ⟨⟨hp.2,λY=>Iff.rfl,rfl⟩,l,hp.4⟩));haveI z:decide (0<=t.pl v)=true:=z;haveI hh:=hp.2.3 v b.1 b.2 (dQ z);haveI r:Ev (aA (k+5)) ((aH.set (λY=>none) .X (fU I)).set .var (.int v)) A (.aQ (.aC (.var .X) .jk) (.var .var)) (.int ((t.pl v).toNat)):=by
   simp only[Int.toNat_of_nonneg (dQ z)];exact eF M (eB M rfl rfl rfl) (O rfl) rfl g rfl b
  exact eX M (O rfl) fB (aI r aX) (Qb M ⟨g,hp.2,l,hp.4⟩ (fR.mp hh).1 λj h p M bN=>c_ (c_ (q _ _ (aW t.ac v (t.ac v+t.hs)) t.hs h p (λY Y=>rfl) M ⟨bN,l,hp.4⟩)))
theorem Vd(h:0<=s/\s<=gk):0<=s+Int.fdiv s 19+1/\s+Int.fdiv s 19+1<=2*gk:=by
 haveI h:0<=s/\s<=1000000000000:=h;show _/\_<=2*1000000000000;refine B (Int.fdiv_eq_ediv_of_nonneg _ (by decide)) ?_
 lia
theorem Ve(M:Mem I t Z A)(hp:Hp t)(q:∀d c f s h p,ph I d->Mem d (t.hr f s h p) Z c->y8 t f s h p->Q .none c):aA (k+6) .Cy [fU I] A Q:=by
 haveI hd:=Vd hp.4;refine⟨_,rfl,kA M (dz (dz (eB M rfl rfl rfl) (dz (eB M rfl rfl rfl) (dz eG a8 rfl trivial) rfl (wz (by decide))) rfl trivial) a8 rfl trivial) (O rfl) fB DF rfl λA M=>?_⟩
 haveI g:Ev (aA (k+5)) (aH.set (λY=>none) .X (fU I)) A (.dw .gt (.aC (.var .X) .step) (.aC (.var .X) .oS)) (.bool (decide (gk<t.hs+Int.fdiv t.hs 19+1))):=eP (eB M rfl rfl rfl) (eB M rfl rfl rfl) rfl;refine bL g (λY=>?_) λz=>c_ (q _ _ t.ac (t.hs+Int.fdiv t.hs 19+1) t.hp t.pl (λY Y=>rfl) M ⟨⟨hp.2,λY=>Iff.rfl,rfl⟩,hp.3,hd.1,Int.not_lt.mp (gZ z)⟩);exact eX M (O rfl) fB aX (PY M hp.1 hp.2 (λv e=>⟨(hp.3 v e).1,fp (hp.3 v e).2 (by decide)⟩) hd λa c f s h p M b=>c_ (q _ _ f s h p Pk M ⟨⟨b.1.1,b.1.2,b.1.3⟩,b.2,b.3⟩))
noncomputable def T.val(t:T)(l:Int):Int:=if 0<l then t.aa l else-t.aa (-l)
noncomputable def bJ(l:Int):Int:=if 0<l then 2*l else 1-2*l
def a9(t:T)(l:Int):Prop:=l≠0/\-t.n<=l/\l<=t.n
noncomputable def U(l:Int):Int:=l.natAbs
theorem ub(h:0<l):U l=l:=Int.natAbs_of_nonneg (Int.le_of_lt h)
theorem zr(h:¬0<l):U l= -l:=by haveI:=Int.ofNat_natAbs_of_nonpos (Int.not_lt.mp h);exact this
theorem a9.U(h:a9 t l):1<=U l/\U l<=t.n:=by
 by_cases q:(0<l)
 .exact B (ub q) (⟨q,h.2.2⟩)
 .exact B (zr q) (⟨by have:=h.1;lia,Int.neg_le_of_neg_le h.2.1⟩)
theorem a9.fu(h:a9 t l):In t (Mp.U l):=⟨fp (by decide) h.U.1,h.U.2⟩
inductive Bd(t:T):Prop|mk
 (Y:t.n<=5)
 (Y:t.tr.length<=5)
 (Y:t.aK.length<=9)
 (Y:t.m<12000000)
 (Y:∀i:Int,0<=i->i<t.m->(t.cl i).length<=5)
 (Y:∀p,(t.ws p).length<=15000000)
 :Bd t
theorem Bd.jF(b:Bd t):t.tr.length<=bf:=aV b.2 (bt rfl)
theorem Bd.zz(b:Bd t):t.aK.length<=bf:=aV b.3 (bt rfl)
theorem Bd.bm(b:Bd t):t.m<bf:=Nat.lt_trans b.4 (iV (bt rfl))
theorem Bd.nX(b:Bd t){i:Int}(h0:0<=i)(a:i<t.m):(t.cl i).length<=bf:=aV (b.5 i h0 a) (bt rfl)
theorem Bd.zB(b:Bd t)(p:Int):(t.ws p).length<bf:=df (b.6 p) (iV (bt rfl))
theorem qL(M:Mem I t Z A)(b:t.n<=5)(h:a9 t l)(Q:V->H->Prop)(q:Q (.int (t.val l)) A):aA (k+1) .ic [me I,.int l] A Q:=by
 refine⟨_,rfl,cI (qc (eP (O rfl) a8 rfl) (λz=>?_) λz=>?_) q⟩
 .have z:=dQ z;have a:In t l:=⟨Int.le_of_lt z,h.2.2⟩;rw[T.val,bA z];exact eF M (bY M rfl rfl rfl) (O rfl) rfl ‹_› rfl ‹_›
 .have z:=gZ z;have a:In t (-l):=⟨Int.neg_nonneg_of_nonpos (Int.not_lt.mp z),Int.neg_le_of_neg_le h.2.1⟩;rw[T.val,bx z];exact ig (eF M (bY M rfl rfl rfl) (ig (O rfl) rfl) rfl ‹_› rfl ‹_›) rfl
theorem wR(M:Mem I t Z A)(b:Bd t)(Q:V->H->Prop)(q:Q (.int t.aK.length) A):aA (k+1) .pD [me I] A Q:=
 haveI:=b.zz
 ⟨_,rfl,cI (jt ‹_› (bY M rfl rfl rfl) rfl ‹_› rfl) q⟩
theorem aix(M:Mem I t Z A)(a:t.n<=5)(b:In t v)(Q:V->H->Prop)(q:Q (.int (t.S v)) A):aA (k+1) .HR [me I,.int v] A Q:=
 ⟨_,rfl,cI (eF M (bY M rfl rfl rfl) (O rfl) rfl ‹_› rfl ‹_›) q⟩
theorem tD(Q:V->H->Prop)(q:Q (.int (bJ l)) A):aA (k+1) .ot [.int l] A Q:=by
 haveI b2:∀x,qS .mul 2 x:=λx=>.inl ⟨by decide,by decide⟩
 refine⟨_,rfl,cI (qc (eP (O rfl) a8 rfl) (λz=>?_) λz=>?_) q⟩
 .rw[bJ,bA (dQ z)];exact dz a8 (O rfl) rfl (b2 _)
 .rw[bJ,bx (gZ z)];exact dz a8 (dz a8 (O rfl) rfl (b2 _)) rfl trivial
theorem ag8(Q:V->H->Prop)(q:Q (.aE [.int (U l),.int l]) A):aA (k+1) .BK [.int l] A Q:=
 ⟨_,rfl,cI (ju (aI (fO (O rfl) rfl) (aI (O rfl) aX))) q⟩
noncomputable def T.cG(t:T)(l r:Int):T:={t with aa:=aW t.aa (U l) (if 0<l then 1 else-1),ae:=aW t.ae (U l) t.aK.length,R:=aW t.R (U l) r,S:=aW t.S (U l) t.tr.length,tr:=t.tr++[l]}
theorem wY(M:Mem I t Z A)(b:Bd t)(h:a9 t l)(q:∀d,Mem I (t.cG l r) Z d->Q .none d):aA (k+2) .pE [me I,.int l,.int r] A Q:=by
 haveI a:=b.1;haveI f:=b.jF;haveI c:=h.fu;haveI e:Ev (aA (k+1)) ((((aH.set (λY=>none) .X (me I)).set .lit (.int l)).set .bO (.int r))) A (.b1 .abs (.var .lit)) (.int (U l)):=fO (O rfl) rfl;refine⟨_,rfl,dG e ?_⟩;refine kU M (qc (v:=.int (if 0<l then 1 else-1)) (eP (O rfl) a8 rfl) (λz=>?_) λz=>?_) (bY M rfl rfl rfl) (O rfl) rfl a c IF λA M=>?_
 .rw[bA (dQ z)];exact eG
 .rw[bx (gZ z)];exact eG
 refine kU M (gA M (O rfl) bb aX (wR M ⟨b.1,b.2,b.3,b.4,b.5,b.6⟩)) (bY M rfl rfl rfl) (O rfl) rfl a c UA λA M=>kU M (O rfl) (bY M rfl rfl rfl) (O rfl) rfl a c IG λA M=>?_;refine kU M (jt ‹_› (bY M rfl rfl rfl) rfl ‹_› rfl) (bY M rfl rfl rfl) (O rfl) rfl a c UC λA M=>?_;exact rY M (bY M rfl rfl rfl) (O rfl) rfl (B cj (df b.2 (iV (bt rfl)))) (B j5 US) λA M=>d9 (q _ M)
theorem O7(M:Mem I t Z A)(b:Bd t)(q:∀a,Mem I (t.B_ (t.aK++[(t.tr.length:Int)])) Z a->Q .none a):aA (k+1) .C2 [me I] A Q:=by
 haveI c:=b.jF;refine⟨_,rfl,rY M (bY M rfl rfl rfl) (jt ‹_› (bY M rfl rfl rfl) rfl ‹_› rfl) rfl (B cj (df b.3 (iV (bt rfl)))) (B j5 UQ) λA M=>?_⟩;exact bL (qa (bY M rfl rfl rfl)) nf λY=>c_ (q _ M)
def Cn(t:T)(i:Int):Prop:=0<=i/\i<t.m
theorem c7(h:Ss C r l A Q):Ss C [] l A (Nx C r Q):=h
theorem js(h:Cn t i):cont I t (.c i)=some (.list (Zl (t.cl i))):=bA h
theorem tE(h:a9 t a):0<=bJ a/\bJ a<2*t.n+2:=by
 haveI b:=h.2.1;haveI c:=h.2.2;unfold bJ;split<;>lia
theorem ui(h:a9 t a):cont I t (.w (bJ a))=some (.list (Zl (t.ws (bJ a)))):=bA (tE h)
theorem mc(M:Mem I t Z A)(b:Bd t)(h:Ev C l A a (.ref (I .cl)))(g:Ev C l A e (.int i))(hi:Cn t i):Ev C l A (.aQ a e) (.ref (I (.c i))):=
 w3 M h g rfl (c9 b.bm) hi.1 hi.2
theorem nD{k:Nat}(M:Mem I t Z A)(b:Bd t)(h:Ev C l A a (.ref (I (.c i))))(g:Ev C l A e (.int k))(hi:Cn t i)(d:(t.cl i)[k]? =some x):Ev C l A (.aQ a e) (.int x):=
 kh M h g (js hi) (b.nX hi.1 hi.2) d
theorem uF(M:Mem I t Z A)(b:Bd t)(h:Ev C l A a (.ref (I .ws)))(g:Ev C l A e (.int (bJ x)))(c:a9 t x):Ev C l A (.aQ a e) (.ref (I (.w (bJ x)))):=
 w3 M h g rfl (aV (Nat.add_le_add_right (Nat.mul_le_mul_left 2 b.1) 2) (bt rfl)) (tE c).1 (tE c).2
noncomputable def T.r8(t:T)(p c:Int):T:=t.k0 (aW t.ws p (t.ws p++[c]))
theorem GL(M:Mem I t Z A)(b:Bd t)(f:Ev C l A o (.ref (I (.w (bJ x)))))(ha:Ev C l A a (.int c))(d:a9 t x)(k:∀e,Mem I (t.r8 (bJ x) c) Z e->Ss C r l e Q):Ss C (.expr (.c8 o a)::r) l A Q:=
 rY M f ha (ui d) (B cj (b.zB _)) (B j5 (UU (tE d).1 (tE d).2)) k
theorem O3(h:aD≠.c i):lI I i a aD=I aD:=by
 cases aD<;>first|rfl|exact bx λq=>h (aP _ q)
theorem O2{I:bT->Nat}{i:Int}{a:Nat}:(λj=>V.ref (lI I i a (.c j)))=aW (λj=>.ref (I (.c j))) i (.ref a):=by
 funext j
 show V.ref (if j=i then a else I (.c j))=if j=i then _ else _
 split<;>rfl
theorem aiA(M:Mem I t Z A)(s:Ev C l A o (.ref (I .cl)))(ha:Ev C l A a (.aE (Zl xs)))(d:t.m<bf)(k:∀p i,Mem (lI I t.m p) (t.IM xs) Z i->Ss C r l i Q):Ss C (.expr (.c8 o (.b1 .list a))::r) l A Q:=by
 refine s _ ⟨⟨_,rfl,_,M.1 .cl _ rfl⟩,ha _ λp hp=>?_⟩;haveI n:=M.dy (o:=.list (Zl xs)) (.inl hp);refine cE _ _ (cg rfl (n.1 .cl _ rfl) (B fJ d) (k p _ ((n.mv (.c t.m) .cl rfl (bT.ne rfl) H.bC (bA rfl) (λaD h=>O3 h) ?_ ?_ λaD e g=>?_).fD λb y d=>?_)))
 .exact(bA ⟨fE _,g9.mpr (k5 _)⟩).trans (aP (λy=>some (bN.list (Zl y))) cU)
 .exact aP (λf=>some (bN.list f)) ((aP (cS (t.m+1)) O2).trans sA.symm)
 .cases aD with
  |c j=>
   have u:j≠t.m:=λq=>e (aP _ q);show(if 0<=j/\j< ((t.m+1))then some (bN.list (Zl (aW t.cl t.m xs j)))else none)=if 0<=j/\j<t.m then _ else _
   refine B (b7 u) ?_;by_cases q:(0<=j/\j<t.m)
   .rw[bA q,bA ⟨q.1,by lia⟩]
   .rw[bx q,bx (by lia)]
  |ob c=>clear e g;cases c<;>rfl
  |«at» c=>clear e g;cases c<;>rfl
  |cl=>exact absurd rfl g
  |_=>rfl
 .haveI:b≠p:=λq=>by replace d:=q▸d;replace d:=(M.dP hp)▸d;exact nn d
  show(if b=p then none else(Z.set p _) b)=_
  exact B (bx this)<|B (H.a6 this)<|B d rfl
noncomputable def T.ou(t:T)(xs:List Int)(s:Option Int)(d:Bool):T:=(((t.IM xs).QP s).Jc d).Ia
theorem QO(M:Mem I t Z A)(b:Bd t)(f:t.kW=t.m)(g:t.nB=t.m)(h:t.nW=t.m)(q:∀a e x,Mem (lI I t.m a) ((t.ou xs s d).Bj x) Z e->Q (.int t.m) e):aA (k+1) .zg [me I,.aE (Zl xs),oi s,.bool d] A Q:=by
 haveI c:=b.bm;haveI i:=λl a=>by
  haveI:=oG (bY M ‹_› rfl rfl:Ev (aA k) l A (.aC (.var .X) .fS) (.ref (I .cl))) (M.1 .cl _ rfl) (B fJ (c9 c));rwa[fJ]at this
 refine⟨_,rfl,dG (i _ rfl) (aiA M (bY M rfl rfl rfl) (O rfl) c λp A M=>?_)⟩;refine rY M (bY M rfl rfl rfl) (O rfl) rfl (B fJ (f▸c)) UP λA M=>rY M (bY M rfl rfl rfl) (O rfl) rfl (B fJ (g▸c)) UJ λA M=>rY M (bY M rfl rfl rfl) a8 rfl (B fJ (h▸c)) UG λA M=>bL (O rfl) (λY=>?_) λY=>d9 (cI (O rfl) (q p A t.ld M));exact kA M (dz (bY M rfl rfl rfl) a8 rfl trivial) (O rfl) bb UL rfl λA M=>c7 (cI (O rfl) (q p A _ M))
theorem Rl(M:Mem I t Z A)(b:Bd t)(d:Cn t c)(i:(t.cl c)[0]? =some a)(j:(t.cl c)[1]? =some f)(ha:a9 t a)(g:a9 t f)(l:∀p,(t.ws p).length<15000000)(q:∀h,Mem I ((t.r8 (bJ a) c).r8 (bJ f) c) Z h->Q .none h):aA (k+2) .C3 [me I,.int c] A Q:=by
 refine⟨_,rfl,dG (mc M b (bY M rfl rfl rfl) (O rfl) d) ?_⟩;refine GL M b (uF M b (bY M rfl rfl rfl) (nE (aI (nD M b (O rfl) a8 d i) aX) λQ q=>tD Q q) ha) (O rfl) ha λA M=>?_;haveI e:Bd (t.r8 (bJ a) c):=⟨b.1,b.2,b.3,b.4,b.5,λp=>by
  show(aW t.ws _ _ p).length<=_;unfold aW;split
  .exact B cx (l _)
  .exact b.6 p⟩
 exact GL M e (uF M e (bY M rfl rfl rfl) (nE (aI (nD M e (O rfl) a8 d j) aX) λQ q=>tD Q q) g) (O rfl) g λA M=>d9 (q _ M)
theorem ahu(h:b<=a):gE a b=[]:=by
 unfold gE;refine B (Int.toNat_of_nonpos (Int.sub_nonpos_of_le h)) ?_;rfl
theorem F1{x:Int}(h:0<x):x.toNat=(x-1).toNat+1:=az (Int.eq_succ_of_zero_lt h) λk e=>by rw[e,Int.add_sub_cancel];rfl
theorem BD{x:Int}(h:x.toNat=n+1):0<x/\(x-1).toNat=n:=have p:0<x:=Int.pos_iff_toNat_pos.mpr (h▸Nat.succ_pos n);⟨p,Nat.succ.inj ((F1 p).symm.trans h)⟩
theorem QT(a b c:Int):a-b-c=a-c-b:=by rw[Int.sub_sub,Int.add_comm,Int.sub_sub]
theorem aht(h:a<b):gE a b=.int a::gE (a+1) b:=by
 unfold gE;rw[F1 (Int.sub_pos_of_lt h),Int.sub_sub,List.range_succ_eq_map,List.map_cons,fk];exact congr (aP _ (aP _ (Int.add_zero a))) (k8 λi Y=>aP V.int ((aP (a+·) (Int.add_comm i 1)).trans (Int.add_assoc ..).symm))
theorem ahs(h:a<=b):rV a b=[]:=by
 unfold rV;refine B (Int.toNat_of_nonpos (Int.sub_nonpos_of_le h)) ?_;rfl
theorem ahr(h:b<a):rV a b=.int a::rV (a-1) b:=by
 unfold rV;rw[F1 (Int.sub_pos_of_lt h),QT,List.range_succ_eq_map,List.map_cons,fk];exact congr (aP _ (aP _ (Int.sub_zero a))) (k8 λi Y=>aP V.int ((aP (a- ·) (Int.add_comm i 1)).trans (Int.sub_sub ..).symm))
theorem D8(b:Int)(a:Int->aH->H->Prop)
 (step:∀i l A,i<b->a i l A->∀P:Fl->aH->H->Prop,(∀l A,a (i+1) l A->P .next l A/\P .cont l A)->(∀l A,Q .next l A->P .brk l A)->(∀v l A,Q (.ret v) l A->P (.ret v) l A)->body (.int i) l A P)
 (bZ:∀i l A,b<=i->a i l A->Q .next l A) (n:Nat):∀(i:Int) (l:aH) (A:H),(b-i).toNat=n->a i l A->oK body (λY=>True) (gE i b) l A Q:=by
 induction n with
 |zero=>intro i l A h c;have h:=Int.le_of_sub_nonpos (Int.toNat_eq_zero.mp h);exact B (ahu h) ⟨trivial,bZ i l A h c⟩
 |succ n ih=>
  intro i l A h c;have d:=Int.lt_of_sub_pos (BD h).1;have g:=λl A e=>ih (i+1) l A (Int.sub_sub b i 1▸(BD h).2) e;exact B (aht d) ⟨trivial,step i l A d c _ (λl A h=>⟨g l A h,g l A h⟩) (λY Y h=>h) λY Y Y h=>h⟩
theorem Wy(b:Int)(a:Int->aH->H->Prop)
 (step:∀i l A,b<i->a i l A->∀P:Fl->aH->H->Prop,(∀l A,a (i-1) l A->P .next l A/\P .cont l A)->(∀l A,Q .next l A->P .brk l A)->(∀v l A,Q (.ret v) l A->P (.ret v) l A)->body (.int i) l A P)
 (bZ:∀i l A,i<=b->a i l A->Q .next l A) (n:Nat):∀(i:Int) (l:aH) (A:H),(i-b).toNat=n->a i l A->oK body (λY=>True) (rV i b) l A Q:=by
 induction n with
 |zero=>intro i l A h c;have h:=Int.le_of_sub_nonpos (Int.toNat_eq_zero.mp h);exact B (ahs h) ⟨trivial,bZ i l A h c⟩
 |succ n ih=>
  intro i l A h c;have d:=Int.lt_of_sub_pos (BD h).1;have g:=λl A e=>ih (i-1) l A (QT i b 1▸(BD h).2) e;exact B (ahr d) ⟨trivial,step i l A d c _ (λl A h=>⟨g l A h,g l A h⟩) (λY Y h=>h) λY Y Y h=>h⟩
theorem QJ(c:Int->aH->H->Prop)(ha:Ev C l A d (.int a))(e:Ev C l A f (.int b))(fa:fits a)(g:fits b)(h0:c a l A)
 (step:∀i l A,i<b->c i l A->∀P:Fl->aH->H->Prop,(∀l A,c (i+1) l A->P .next l A/\P .cont l A)->(∀l A,Ss C r l A Q->P .brk l A)->(∀v l A,Q (.ret v) l A->P (.ret v) l A)->Ss C bd (l.set x (.int i)) A P)
 (bZ:∀i l A,b<=i->c i l A->Ss C r l A Q):Ss C (.for false [x] .eV [d,f] bd::r) l A Q:=
 ha _ (e _ (aS fa g (D8 b c (λi l A h j P k m n=>⟨_,rfl,step i l A h j P k m n⟩) bZ _ a l A rfl h0)))
theorem rZ(a:Int->aH->H->Prop)(c:Ev C l A d (.int b))(e:fits b)(h0:a 0 l A)
 (step:∀i l A,i<b->a i l A->∀P:Fl->aH->H->Prop,(∀l A,a (i+1) l A->P .next l A/\P .cont l A)->(∀l A,Ss C r l A Q->P .brk l A)->(∀v l A,Q (.ret v) l A->P (.ret v) l A)->Ss C bd (l.set x (.int i)) A P)
 (bZ:∀i l A,b<=i->a i l A->Ss C r l A Q):Ss C (.for false [x] .eV [d] bd::r) l A Q:=
 c _ ⟨e,D8 b a (λi l A f g P h j k=>⟨_,rfl,step i l A f g P h j k⟩) bZ _ 0 l A rfl h0⟩
theorem QK(c:Int->aH->H->Prop)(ha:Ev C l A d (.int a))(e:Ev C l A f (.int b))(g:Ev C l A h (.int (-1)))(fa:fits a)(j:fits b)(h0:c a l A)
 (step:∀i l A,b<i->c i l A->∀P:Fl->aH->H->Prop,(∀l A,c (i-1) l A->P .next l A/\P .cont l A)->(∀l A,Ss C r l A Q->P .brk l A)->(∀v l A,Q (.ret v) l A->P (.ret v) l A)->Ss C bd (l.set x (.int i)) A P)
 (bZ:∀i l A,i<=b->c i l A->Ss C r l A Q):Ss C (.for false [x] .eV [d,f,h] bd::r) l A Q:=
 ha _ (e _ (g _ (cg rfl fa j (Wy b c (λi l A k m P n o p=>⟨_,rfl,step i l A k m P n o p⟩) bZ _ a l A rfl h0))))
theorem z6{j:Nat}(ha:Ev C l A a (.ref p))(hh:Ev C l A h (.int j))(e:A p=some (.list E))(b:E.length<=bf)(c:fits j):fX C l A (.nS a h) (E.take j):=
 λQ q=>ha _ (hh _ (cE E j (ee e b rfl (fE _) c q)))
theorem V7{j:Nat}(ha:Ev C l A a (.args xs))(hh:Ev C l A h (.int j))(b:(xs.map V.int).length<=bf)(c:fits j):fX C l A (.nS a h) ((xs.map V.int).take j):=
 λQ q=>ha _ (hh _ (cE _ j (ee rfl b rfl (fE _) c q)))
theorem JN{j:Nat}(ha:Ev C l A a (.ref p))(hh:Ev C l A h (.int j))(e:A p=some (.list E))(b:E.length<=bf)(c:fits j):fX C l A (.from a h) (E.drop j):=
 λQ q=>ha _ (hh _ (d_ p E j (oy rfl e b rfl (fE _) c q)))
theorem mW{j:Nat}(h:j<=16000000):fits (j:Int):=⟨fp (by decide) (fE _),fp (Int.ofNat_le.mpr h) (by decide)⟩
theorem Wj{j:Nat}(h:j<=16000000):fits ((j:Int)-1):=⟨by lia,by lia⟩
theorem A5:(Zl l).take j=Zl (l.take j):=List.map_take.symm
theorem N3:(Zl l).drop j=Zl (l.drop j):=List.map_drop.symm
inductive cB(t:T):Prop|mk
 (Y:∀v,In t v->t.aa v=0\/t.aa v=1\/t.aa v= -1)
 (Y:t.aa 0=0)
 (Y:∀(i:Nat) (l:Int),t.tr[i]? =some l->a9 t l/\t.val l=1/\t.S (U l)=i)
 (Y:∀l,a9 t l->t.val l=1->0<=t.S (U l)/\t.tr[(t.S (U l)).toNat]? =some l)
 (Y:∀(j:Nat) (d:Int),t.aK[j]? =some d->0<=d/\d<=t.tr.length/\∀(j':Nat) (d':Int),t.aK[j']? =some d'->j<=j'->d<=d')
 (Y:∀(i:Nat) (l:Int),t.tr[i]? =some l->0<=t.ae (U l)/\t.ae (U l)<=t.aK.length/\∀(j:Nat) (d:Int),t.aK[j]? =some d->((j:Int)<t.ae (U l)↔d<=i))
 :cB t
def m8(t:T)(s:Int)(f g:Int->Int)(h:List Int)(p:Int->Int):Prop:=Q4
 (∀v,In t v->f v=if s<=t.S v then 0 else t.aa v)
 (∀v,In t v->t.S v<s->g v=t.R v)
 (HQ t.n h p)
 (∀v:Int,1<=v->v<=t.n->(t.aa v=0->0<=t.pl v)->f v=0->0<=p v)
noncomputable def T.dh(t:T)(f g u:Int->Int)(h:List Int)(p:Int->Int)(s:Int)(lv:Nat):T:=
 {t with P:=u,aa:=f,R:=g,hp:=h,pl:=p,tr:=t.tr.take s.toNat,aK:=t.aK.take lv,hd:=min t.hd s,iq:=min t.iq s}
theorem ahY(t:T):(((((t.P' t.P).A' t.aa).R' t.R).fT t.hp).rT t.pl)=t:=by cases t;rfl
theorem cB.v(a:cB t){v:Int}(b:In t v)(h:t.aa v≠0):∃l,t.tr[(t.S v).toNat]? =some l/\U l=v/\0<=t.S v:=by
 have v0:v≠0:=λe=>h (B e a.2);have v1:0<v:=by have:=b.1;lia
 haveI c:=b.2;haveI neg:¬(0< -v):=by lia
 rcases(a.1 v b).resolve_left h with e|e
 .haveI:=a.4 v (aS v0 (by lia) c) (by rw[T.val,bA v1];exact e)
  replace this:=(ub v1)▸this;exact⟨v,this.2,ub v1,this.1⟩
 .haveI en:=(zr neg).trans (h_ v);haveI:=a.4 (-v) (aS (by lia) (by lia) (by lia)) (by rw[T.val,bx neg,h_];refine B e ?_;rfl)
  rw[en]at this;exact⟨-v,this.2,en,this.1⟩
theorem JD(h:Ev C l A a (.int i))(g:Ev C l A b (.int j))(e:min i j=x):Ev C l A (.b2 .min a b) (.int x):=JC h g e
set_option tactic.hygienic true in
theorem qZ{I:bT->Nat}(M:Mem I t Z A)(b:Bd t)(r:cB t)(hp:Hp t)(q0:t.aK.length<=lv->Q .none A)
 (q:∀(s:Int) C bD f g u h p,t.aK[lv]? =some s->(∀aD,aD≠.tr->aD≠.aK->bD aD=I aD)->Mem bD (t.dh f g u h p s lv) Z C->m8 t s f g h p->Q .none C):aA (k+5) .oz [me I,.int lv] A Q:=by
 haveI E:=b.1;haveI L:=b.jF;refine⟨_,rfl,dG (dz (gA M (O rfl) bb aX (wR M b)) (O rfl) rfl trivial) ?_⟩;refine bL (eP (O rfl) a8 rfl) (λz=>cI ki (q0 (by have:=dQ (p:=(t.aK.length:Int)-lv<=0) z;lia))) λz=>c7 ?_
 have ES:lv<t.aK.length:=by haveI:=gZ (p:=(t.aK.length:Int)-lv<=0) z;lia
 haveI hs:=dZ ES;generalize t.aK[lv]=s at hs;refine br (r.5 lv s hs) λs0 s1 Y=>dG (kh M (bY M rfl rfl rfl) (O rfl) rfl b.zz hs)<|QK (λi l A=>s-1<=i/\i<t.tr.length/\l .X=some (me I)/\l .mD=some (.int s)/\l .yk=some (.int lv)/\∃f g u h p,Mem I (((((t.P' u).A' f).R' g).fT h).rT p) Z A/\m8 t (i+1) f g h p) (a:=(t.tr.length:Int)-1) (b:=s-1)
  (dz (jt M (bY M rfl rfl rfl) rfl ‹_› rfl) a8 rfl trivial) (dz (O rfl) a8 rfl trivial) (ig a8 rfl) (Wj (aV L (dR _))) ⟨by lia,by have:=Int.ofNat_le.mpr b.2;lia⟩ (ee (by lia) (by lia) rfl rfl rfl (mM t.aa t.R t.P t.hp t.pl (fF ((ahY t).symm▸M) ?_))) ?_ ?_
 .refine⟨λv d=>?_,λY Y Y=>rfl,hp.2,λv Y Y h e=>h e⟩
  split
  .rename_i z
   exact jX λe=>by
    refine az (r.v d e) λl AH=>br AH λe1 e2 e3=>?_;clear AH;have:=(fR.mp e1).1;lia
  .rfl
 .intro i l A hi M6 P p1 Y Y;refine gn λkG=>iM M6 λi0 i1 l1 l2 l3 M9=>jD M9 λf g u h p M_=>aU M_ λM N=>?_;clear M9 M_;try clear M6
  obtain⟨j,rfl⟩:∃j:Nat,i=j:=⟨i.toNat,by lia⟩
  refine kG ?_;have hj:j<t.tr.length:=by lia
  haveI G:=dZ hj;generalize t.tr[j]=x at G;haveI hZ:=r.3 j x G;have W:=hZ.1;haveI ix:=W.fu;refine dG (fO (kh M (bY M ‹_› rfl rfl) (O rfl) rfl L G) rfl)<|kU M (eF M (bY M ‹_› rfl rfl) (O rfl) rfl ‹_› rfl ‹_›) (bY M ‹_› rfl rfl) (O rfl) rfl E ix UB λA M=>kU M eG (bY M ‹_› rfl rfl) (O rfl) rfl E ix IF λA M=>kU M eG (bY M ‹_› rfl rfl) (by exact O rfl) rfl E ix IG λA M=>?_
  haveI fx:∀v,In t v->aW f (U x) 0 v=if j<=t.S v then 0 else t.aa v:=λv d=>by
   rcases cY (v=U x)with e|e
   .subst e;rw[cU,bA (by lia)]
   .rw[b7 e,N.1 v d];refine dx (t.aa v=0) (λz=>?_) λz=>?_
    .refine B z ?_;split<;>split<;>rfl
    .refine az (r.v d z) λy acw=>br acw λy1 y2 y3=>?_;haveI:t.S v≠j:=λw=>by simp only[w,Int.toNat_natCast,G]at y1;exact e (y2.symm.trans (aP U (dH y1).symm))
     rcases cY (j<=t.S v)with w|w
     .rw[bA w,bA (by lia)]
     .rw[bx w,bx (by lia)]
  refine eX M (bY M ‹_› rfl rfl) fB (aI (O rfl) aX) (PT M ⟨E,N.3,hp.3,hp.4⟩ W.U.1 W.U.2 λA h' p' M J' hh=>d9 (p1 _ _ ?_).1);refine⟨by lia,by lia,l1,l2,l3,_,_,_,h',p',M,λv d=>?_,λv d e=>?_,J',λv v1 v2 h0 e=>(hh v).mpr ?_⟩
  .rw[Int.sub_add_cancel];exact fx v d
  .exact(b7 λw=>by rw[w]at e;lia).trans (N.2 v d (by lia))
  .refine dx (v=U x) (λw=>?_) (λw=>?_)
   .exact .inr w
   .exact .inl (N.4 v v1 v2 h0 ((b7 w).symm.trans e))
 .intro i l A hi Af;refine iM Af λi0 i1 l1 l2 l3 Kx=>jD Kx λf g u h p KO=>aU KO λM N=>?_;clear Kx KO;try clear Af
  haveI ei:i+1=s:=by lia
  rw[ei]at N;obtain⟨n,rfl⟩:∃n:Nat,s=n:=⟨s.toNat,by lia⟩
  have fn:fits n:=⟨by lia,by have:=Int.ofNat_le.mpr b.2;lia⟩
  haveI fl:fits lv:=⟨by lia,by have:=Int.ofNat_le.mpr b.3;lia⟩
  refine GI (J:=(((((t.P' u).A' f).R' g).fT h).rT p).G5 (t.tr.take n)) M (A5▸z6 (bY M ‹_› rfl rfl) (O ‹_›) (M.1 .tr _ rfl) (B cj L) fn) (λbj C M=>O ‹_›) bb (bT.ne rfl) rfl (FX I) (λY=>rfl)
   (λa m h=>by cases m<;>first|rfl|exact absurd rfl h) (λa=>rfl) (λa=>rfl) (λa m h o=>by cases m<;>first|rfl|exact absurd rfl h|(rename_i c;cases c<;>first|rfl|exact absurd rfl o)) λa A M=>?_
  refine GI (J:=((((((t.P' u).A' f).R' g).fT h).rT p).G5 (t.tr.take n)).B_ (t.aK.take lv)) M (A5▸z6 (bY M ‹_› rfl rfl) (O ‹_›) (M.1 .aK _ rfl) (B cj b.zz) fl) (λbj C M=>O ‹_›) bb (bT.ne rfl) rfl (O4 (FX I a)) (λY=>rfl)
   (λa m h=>by cases m<;>first|rfl|exact absurd rfl h) (λa=>rfl) (λa=>rfl) (λa m h o=>by cases m<;>first|rfl|exact absurd rfl h|(rename_i c;cases c<;>first|rfl|exact absurd rfl o)) λa' A M=>?_
  exact kA M (JD (bY M ‹_› rfl rfl) (O ‹_›) rfl) (O ‹_›) bb DE rfl λA M=>kA M (JD (bY M ‹_› rfl rfl) (O ‹_›) rfl) (O ‹_›) bb UR rfl λA M=>bL (qa (bY M ‹_› rfl rfl)) nf λY=>c_<|q n A (O4 (FX I a) a') f g u h p hs (λaD h1 o=>by cases aD<;>first|rfl|exact absurd rfl h1|exact absurd rfl o) M N
inductive dY(t:T):Prop|mk
 (Y:∀c,Cn t c->(t.cl c).Nodup)
 (Y:∀c x,Cn t c->x∈t.cl c->a9 t x/\-x∉t.cl c)
 :dY t
inductive fY(t:T):Prop|mk
 (Y:∀(i:Nat) (l:Int),t.tr[i]? =some l->(t.R (U l)= -1/\∃j:Nat,(j:Int)+1=t.ae (U l)/\t.aK[j]? =some (i:Int))\/(Cn t (t.R (U l))/\l∈t.cl (t.R (U l))/\∀x∈t.cl (t.R (U l)),x≠l->t.val x= -1/\t.S (U x)<i))
 :fY t
inductive gJ(t:T)(ws:Int->List Int):Prop|mk
 (Y:∀p c,c∈ws p->Cn t c/\∃a b r,t.cl c=a::b::r/\(bJ a=p\/bJ b=p))
 (Y:∀c a b r,Cn t c->t.cl c=a::b::r->c∈ws (bJ a)/\c∈ws (bJ b))
 (Y:∀p,(ws p).Nodup)
 :gJ t ws
def j0(t:T)(h:Int)(a7:Int->Int->Prop):Prop:=∀c a b r,Cn t c->t.cl c=a::b::r->∀u w,(u=a/\w=b\/u=b/\w=a)->t.val u= -1->t.S (U u)<h->a7 c u\/(t.val w=1/\t.ae (U w)<=t.ae (U u))
theorem rU(h:bJ a=bJ b)(ha:a≠0)(c:b≠0):a=b:=by
 unfold bJ at h
 split at h<;>split at h<;>lia
set_option tactic.hygienic true in
theorem lM{t:T}(x:Int):t.val x=if 0<x then t.aa (U x)else-t.aa (U x):=by
 unfold T.val
 split
 .rename_i h;rw[ub h]
 .rename_i h;rw[zr h]
theorem dJ:U (-x)=U x:=aP Nat.cast (Int.natAbs_neg x)
theorem kX{t:T}(h:x≠0):t.val (-x)= -t.val x:=by
 rw[lM,lM,dJ];refine dx (0<x) (λq=>?_) (λq=>?_)
 .rw[bA q,bx (by lia)]
 .rw[bx q,bA (by lia),h_]
theorem a9.n(h:a9 t x):a9 t (-x):=aS (λe=>h.1 (Int.neg_eq_zero.mp e)) (Int.neg_le_neg h.2.2) (Int.neg_le_of_neg_le h.2.1)
theorem kJ(h:U x=U y):x=y\/x= -y:=by
 have:=Int.natAbs_eq_natAbs_iff.mp (Int.ofNat.inj h);exact this
theorem cB.val(a:cB t)(h:a9 t x):t.val x=0\/t.val x=1\/t.val x= -1:=by
 rw[lM];refine Or.elim (a.1 _ h.fu) (λe=>?_) (λb=>Or.elim b (λe=>?_) λe=>?_)<;>refine B e ?_<;>split<;>decide
theorem cB.neg(a:cB t)(h:a9 t x)(e:t.val x= -1):0<=t.S (U x)/\t.tr[(t.S (U x)).toNat]? =some (-x)/\t.S (U x)<t.tr.length:=by
 haveI:=a.4 (-x) h.n (by refine B (kX h.1)<|B e ?_;rfl)
 replace this:=dJ▸this;haveI l:=(fR.mp this.2).1;exact aS this.1 this.2 ((Int.toNat_lt this.1).mp l)
theorem cB.yD(c:cB t)(d:a9 t x)(g:a9 t y)(e:t.val x= -1)(f:t.val y= -1)(s:t.S (U x)=t.S (U y)):x=y:=by
 haveI a:=(c.neg d e).2.1;haveI b:=(c.neg g f).2.1;rw[s,b]at a;exact Int.neg_inj.mp (dH a).symm
theorem nC{t:T}(h:U x≠U l):(t.cG l r).val x=t.val x:=by
 simp only[lM,lM];haveI:(t.cG l r).aa (U x)=t.aa (U x):=b7 h;exact B this rfl
theorem uy{t:T}(h:l≠0):(t.cG l r).val l=1/\(t.cG l r).val (-l)= -1:=by
 haveI:(t.cG l r).val l=1:=by
  rw[lM];haveI:(t.cG l r).aa (U l)=if 0<l then 1 else-1:=cU
  refine B this ?_;split<;>rfl
 exact⟨this,by rw[kX h,this]⟩
theorem lC(h0:t.val l=0)(a:a9 t l)(h:t.val x≠0):U x≠U l:=λe=>h (by
 refine Or.elim (kJ e) (λe=>?_) (λe=>?_)
 .rw[e,h0]
 .rw[e,kX a.1,h0];rfl)
theorem cB.cG(f:cB t)(g:a9 t l)(h0:t.val l=0):cB (t.cG l r):=by
 have n:=uy (t:=t) (r:=r) g.1;refine⟨λv s=>?_,?_,λi x e=>?_,λx o e=>?_,λj d e=>?_,λi x e=>?_⟩
 .show aW _ _ _ _=_\/aW _ _ _ _=_\/aW _ _ _ _=_;unfold aW;split
  .split<;>decide
  .exact f.1 v s
 .exact(b7 λe=>absurd (e▸g.U.1) (by decide)).trans f.2
 .have e:(t.tr++[l])[i]? =some x:=e;rcases Nat.lt_or_ge i t.tr.length with q|q
  .rw[lR q]at e;refine br (f.3 i x e) λa b c=>?_;haveI ne:=lC h0 g (by rw[b];decide)
   exact⟨a,(nC ne).trans b,(b7 ne).trans c⟩
  .rw[lS q]at e;cases z:i-t.tr.length with
   |succ m=>rw[z]at e;exact nn e
   |zero=>
    rw[z]at e;injection e with e;subst e
    exact aS g n.1 (cU.trans (aP Nat.cast (Nat.le_antisymm q (Nat.sub_eq_zero_iff_le.mp z))))
 .refine dx (U x=U l) (λq=>?_) (λq=>?_)
  .refine Or.elim (kJ q) (λh=>?_) (λh=>?_)
   .clear o e q;subst h;haveI:(t.cG x r).S (U x)=t.tr.length:=cU;exact B this<|⟨fE _,by simp only[Int.toNat_natCast];exact(lS (dR _)).trans (by rw[Nat.sub_self];rfl)⟩
   .rw[h,n.2]at e;exact absurd e (by decide)
  .rw[nC q]at e;haveI p:=f.4 x o e;haveI a:=p.1;haveI b:=p.2;have:(t.cG l r).S (U x)=t.S (U x):=b7 q;exact B this<|⟨a,(lR (fR.mp b).1).trans b⟩
 .haveI k:=f.5 j d e;haveI a:=k.1;haveI b:=k.2.1;haveI c:=k.2.2;exact(aS a (fp b (Int.ofNat_le.mpr (by show _<=(t.tr++[l]).length;exact B cx (Nat.le_succ _)))) c)
 .have e:(t.tr++[l])[i]? =some x:=e;rcases Nat.lt_or_ge i t.tr.length with q|q
  .rw[lR q]at e;have ne:=lC h0 g (by rw[(f.3 i x e).2.1];decide)
   have:(t.cG l r).ae (U x)=t.ae (U x):=b7 ne;exact B this<|f.6 i x e
  .rw[lS q]at e;cases z:i-t.tr.length with
   |succ m=>rw[z]at e;exact nn e
   |zero=>
    rw[z]at e;injection e with e;subst e
    haveI:(t.cG l r).ae (U l)=t.aK.length:=cU;refine B this<|(aS (fE _) (g8 _) λj d e=>⟨λY=>fp (f.5 j d e).2.1 (Int.ofNat_le.mpr q),λY=>g9.mpr (fR.mp e).1⟩)
def v9(t:T)(l r:Int):Prop:=(r= -1/\∃j:Nat,j+1=t.aK.length/\t.aK[j]? =some (t.tr.length:Int))\/(Cn t r/\l∈t.cl r/\∀x∈t.cl r,x≠l->t.val x= -1)
theorem fY.cG(s:fY t)(k:cB t)(K:dY t)(n:a9 t l)(h0:t.val l=0)(hr:v9 t l r):fY (t.cG l r):=by
 have p:∀x,a9 t x->t.val x= -1->(t.cG l r).val x= -1/\(t.cG l r).S (U x)=t.S (U x):=λx E e=>by
  haveI ne:=lC h0 n (by rw[e];decide)
  exact⟨(nC ne).trans e,b7 ne⟩
 refine⟨λi x e=>?_⟩;haveI e:=e;rcases Nat.lt_or_ge i t.tr.length with q|q
 .have e:=(lR q)▸e;have ne:=lC h0 n (by rw[(k.3 i x e).2.1];decide)
  haveI g:(t.cG l r).R (U x)=t.R (U x):=b7 ne;have h:(t.cG l r).ae (U x)=t.ae (U x):=b7 ne;refine B g<|h▸(s.1 i x e).imp id λu=>br u λa b c=>aS a b λy d f=>?_;haveI:=c y d f;haveI o:=p y (K.2 _ y a d).1 this.1;exact⟨o.1,B o.2 this.2⟩
 .replace e:=(lS q)▸e;cases z:i-t.tr.length with
  |succ m=>replace e:=z▸e;exact nn e
  |zero=>
   replace e:=z▸e;injection e with e;subst e
   haveI hi:=Nat.le_antisymm (Nat.sub_eq_zero_iff_le.mp z) q;haveI g:(t.cG l r).R (U l)=r:=cU;haveI h:(t.cG l r).ae (U l)=t.aK.length:=cU;refine B g<|h▸hr.imp (λv=>aU v λa w=>az w λj A=>aU A λb c=>⟨a,j,aP Nat.cast b,B hi c⟩) λC=>br C λa b c=>aS a b λy d f=>?_;haveI o:=p y (K.2 _ y a d).1 (c y d f);exact⟨o.1,by simp only[o.2,hi];exact(k.neg (K.2 _ y a d).1 (c y d f)).2.2⟩
theorem U3{t:T}{c:Int}{xs ys:List Int}:(t.oB (aW t.cl c xs)).oB (aW (t.oB (aW t.cl c xs)).cl c ys)=t.oB (aW t.cl c ys):=by
 haveI:aW (aW t.cl c xs) c ys=aW t.cl c ys:=funext λy=>by unfold aW;split<;>rfl
 refine B this ?_;rfl
theorem QM{C:Cx}{l:aH}{A Z:H}{I:bT->Nat}{t:T}{Q:Fl->aH->H->Prop}{r:List St}{o:Nm}{i j a b:a7}{c:Int}{i' e:Nat}{x y:Int}(M:Mem I t Z A)(s:Bd t)(d:Cn t c)(g:l o=some (.ref (I (.c c))))(ha:Ev C l A a (.int x))(u:Ev C l A b (.int y))(hi:∀A,Ev C l A i (.int i'))(v:∀A,Ev C l A j (.int e))(li:i'< (t.cl c).length)(f:e< (t.cl c).length)
 (k:∀h,Mem I (t.oB (aW t.cl c (((t.cl c).set i' x).set e y))) Z h->Ss C r l h Q):Ss C (.rX (.var o) i j a b::r) l A Q:=by
 haveI m:=M.set (.c c) (js d) (zF (x:=(t.cl c).set i' x) d.1 d.2).1 (zF d.1 d.2).2;haveI n:cont I (t.oB (aW t.cl c ((t.cl c).set i' x))) (.c c)=some (.list (Zl ((t.cl c).set i' x))):=(zF d.1 d.2).1;haveI p:=zF (I:=I) (t:=t.oB (aW t.cl c ((t.cl c).set i' x))) (x:=((t.cl c).set i' x).set e y) d.1 d.2;haveI M2:=m.set (.c c) n p.1 p.2;rw[U3]at M2;haveI q:=s.nX d.1 d.2;refine ha _ (u _ ⟨_,g,hi _ _ (fh _ _ _ _ (ee rfl rfl (M.1 _ _ (js d)) (B cj q) (B cj (mA (fE _) (g9.mpr li))) ?_))⟩);simp only[Int.toNat_natCast,Fc];refine⟨_,g,v _ _ (fh _ _ _ _ (ee rfl rfl (m.1 _ _ n) (by rw[cj,List.length_set];exact q) (by rw[cj,List.length_set];exact mA (fE _) (g9.mpr f)) ?_))⟩
 simp only[Int.toNat_natCast,Fc];exact k _ M2
theorem uE(M:Mem I t Z A)(d:Bd t)(b:Cn t c)(h:Ev C l A a (.ref (I (.c c))))(e:((t.cl c).length:Int)=x):Ev C l A (.b1 .len a) (.int x):=jt M h (js b) (d.nX b.1 b.2) e
theorem afM{k:Nat}{A Z:H}{I:bT->Nat}{t:T}{Q:V->H->Prop}{c:Int}(M:Mem I t Z A)(b:Bd t)(W:dY t)(f:Cn t c)(o:2<=(t.cl c).length)(qF:∀A,Mem I t Z A->(∀(k:Nat) x,2<=k->(t.cl c)[k]? =some x->t.val x= -1)->Q (.bool false) A)
 (qT:∀p (k:Nat) x y,2<=k->(t.cl c)[k]? =some x->(t.cl c)[1]? =some y->t.val x≠-1->Mem I ((t.oB (aW t.cl c (((t.cl c).set 1 x).set k y))).r8 (bJ x) c) Z p->Q (.bool true) p):aA (k+2) .zf [me I,.int c,.ref (I (.c c))] A Q:=by
 refine⟨_,rfl,QJ (λi l p=>2<=i/\p=A/\l .X=some (me I)/\l .bO=some (.int c)/\l .bR=some (.ref (I (.c c)))/\∀(k:Nat) x,2<=k->k<i->(t.cl c)[k]? =some x->t.val x= -1) a8 (uE M b f (O rfl) rfl) ⟨by decide,by decide⟩ (mW (b.nX f.1 f.2))
  (ee (by decide) rfl rfl rfl rfl λk x g o=>by lia) ?_ ?_⟩
 .intro i l A hi E P p1 Y p3;refine iM E λi2 r G J n h=>?_;try clear E
  haveI r:=r.symm;subst r;obtain⟨j,rfl⟩:∃j:Nat,i=j:=⟨i.toNat,by lia⟩
  haveI j2:=Int.ofNat_le.mp i2;have L:=g9.mp hi;haveI m:=dZ L;generalize(t.cl c)[j]=x at m;have s:=(W.2 c x f (jq m)).1;have N:∀l:aH,l .bR=some (.ref (I (.c c)))->l .k=some (.int j)->Ev (aA (k+1)) l A (.aQ (.var .bR) (.var .k)) (.int x):=λl a a'=>nD M b (O ‹_›) (O ‹_›) f m;haveI e1:Ev (aA (k+1)) (l.set .k (.int j)) A (.eq true (.aZ (.var .X) .aO .ic [.aQ (.var .bR) (.var .k)]) (.dO "FALSE" (-1))) (.bool (decide (t.val x= -1) !=true)):=di (gA M (O ‹_›) bb (aI (N _ n rfl) aX) (qL M b.1 s)) eG rfl;refine bL e1 (λz=>?_) λz=>c_ (p1 _ _ ?_).1
  .haveI z:t.val x≠-1:=λe=>by replace z:=(cO e)▸z;exact nf z
   haveI g:=o;haveI d:=dZ g;generalize(t.cl c)[1]=y at d;refine QM (i':=1) M b f n (N _ n rfl) (nD M b (O ‹_›) a8 f d) (λY=>a8) (λY=>O rfl) g L λA M=>?_;have u:Bd (t.oB (aW t.cl c (((t.cl c).set 1 x).set j y))):=⟨b.1,b.2,b.3,b.4,λi i0 i1=>by
    show(aW t.cl _ _ i).length<=5;unfold aW;split
    .simp only[List.length_set,List.length_set];exact b.5 c f.1 f.2
    .exact b.5 i i0 i1,b.6⟩
   haveI v:(aW t.cl c (((t.cl c).set 1 x).set j y) c)[1]? =some x:=by refine B cU<|B (List.getElem?_set_ne (by lia)) ?_;exact B (List.getElem?_set_self g) rfl
   exact GL M u (uF M u (bY M ‹_› rfl rfl) (nE (aI (nD M u (O ‹_›) a8 f v) aX) λQ q=>tD Q q) s) (O ‹_›) s λA M=>cI gU (p3 _ _ _ (qT A j x y j2 m d z M))
  .refine(ee (by lia) rfl G J n λk y g o d=>?_)
   refine Or.elim (Int.lt_or_eq_of_le (Int.le_of_lt_add_one o)) (λw=>?_) (λw=>?_)
   .exact h k y g w d
   .replace d:=(Int.ofNat.inj w)▸d;replace d:=m▸d;injection d with d;subst d
    exact jX λe=>by replace z:=(dp e)▸z;exact nt z
 .intro i l A hi R;refine gn λkG=>iM R λi2 C G J n h=>?_;try clear R
  subst C;exact kG<|cI gU (qF _ M λk x g m=>h k x g (by have:=(fR.mp m).1;lia) m)
def Ex(t0 t:T):Prop:=Q4
 (∀x,a9 t0 x->t0.val x≠0->t.val x=t0.val x/\t.ae (U x)=t0.ae (U x)/\t.S (U x)=t0.S (U x)/\t.R (U x)=t0.R (U x))
 (∃y,t.tr=t0.tr++y)
 (∀c,Cn t0 c->(t.cl c).Perm (t0.cl c))
 (∀x,a9 t0 x->t0.val x=0->t.val x≠0->t.R (U x)≠-1)
theorem Ex.gX:Ex t t:=⟨λY Y Y=>cg rfl rfl rfl rfl,⟨[],(fQ _).symm⟩,λY Y=>.refl _,λY Y h g=>absurd h g⟩
theorem Ex.trans(a:Ex t0 t1)(b:Ex t1 i)(f:t1.n=t0.n)(hm:t1.m=t0.m):Ex t0 i:=by
 obtain⟨y,j⟩:=a.2;obtain⟨z,k⟩:=b.2;refine⟨λx d h=>?_,⟨y++z,by simp only[k,j,iX]⟩,λc e=>(b.3 c (by unfold Cn at e⊢;exact B hm e)).trans (a.3 c e),λx d h0 l=>?_⟩
 .have p:=a.1 x d h;haveI q:=b.1 x (by unfold a9 at d⊢;rw[f];exact d) (B p.1 h)
  exact cg (q.1.trans p.1) (q.2.1.trans p.2.1) (q.2.2.1.trans p.2.2.1) (q.2.2.2.trans p.2.2.2)
 .have g:a9 t1 x:=by unfold a9 at d⊢;rw[f];exact d
  rcases cY (t1.val x=0)with z|z
  .exact b.4 x g z l
  .exact B ((b.1 x g z).2.2.2) (a.4 x d h0 z)
noncomputable abbrev T.cu(t:T)(c:Int)(new:List Int):T:=t.oB (aW t.cl c new)
theorem nY{t:T}:(t.cu c new).cl c=new:=cU
theorem nZ{t:T}(h:d≠c):(t.cu c new).cl d=t.cl d:=b7 h
theorem mP{t:T}(p:new.Perm (t.cl c))(d:Int):((t.cu c new).cl d).Perm (t.cl d):=by
 refine dx (d=c) (λe=>?_) (λe=>?_)
 .subst e;exact B nY p
 .rw[nZ e]
theorem Ex.cu(p:new.Perm (t.cl c)):Ex t (t.cu c new):=⟨λY Y Y=>cg rfl rfl rfl rfl,⟨[],(fQ _).symm⟩,λd Y=>mP p d,λY Y h g=>absurd h g⟩
theorem dY.cu(a:dY t)(p:new.Perm (t.cl c)):dY (t.cu c new):=
 ⟨λd hd=>(mP p d).nodup_iff.mpr (a.1 d hd),λd x hd b=>⟨(a.2 d x hd ((mP p d).mem_iff.mp b)).1,λh=>(a.2 d x hd ((mP p d).mem_iff.mp b)).2 ((mP p d).mem_iff.mp h)⟩⟩
theorem fY.cu(d:fY t)(p:new.Perm (t.cl c)):fY (t.cu c new):=
 ⟨λi l e=>(d.1 i l e).imp id λf=>br f λa b q=>aS a ((mP p _).mem_iff.mpr b) λx g=>q x ((mP p _).mem_iff.mp g)⟩
theorem Bd.cu(b:Bd t)(e:Cn t c)(p:new.Perm (t.cl c)):Bd (t.cu c new):=⟨b.1,b.2,b.3,b.4,λi a d=>(mP p i).length_eq▸b.5 i a d,b.6⟩
theorem QW{t:T}(e:t.cl c=a::b::r)(q:(t.cu c (b::a::r)).cl d=x::y::s):t.cl d=x::y::s\/t.cl d=y::x::s:=by
 refine dx (d=c) (λz=>?_) (λz=>?_)
 .subst z;replace q:=nY▸q;cases q;exact .inr e
 .rw[nZ z]at q;exact .inl q
theorem gJ.swap(f:gJ t ws)(e:t.cl c=a::b::r):gJ (t.cu c (b::a::r)) ws:=by
 refine⟨λp d hd=>?_,λd x y s hd q=>?_,f.3⟩
 .refine aU (f.1 p d hd) λh i=>d7 i λx y s j=>aU j λg k=>?_;clear i j;rcases cY (d=c)with z|z
  .refine gn λl=>?_;subst z;replace g:=e▸g;cases g;exact l<|(fF h (d_ b a r (fF nY k.symm)))
  .exact fF h (d_ x y s (fF ((nZ z).trans g) k))
 .rcases QW e q with z|z
  .exact f.2 d x y s hd z
  .exact(f.2 d y x s hd z).symm
theorem j0.swap{a7:Int->Int->Prop}(f:j0 t h a7)(e:t.cl c=a::b::r):j0 (t.cu c (b::a::r)) h a7:=λd x y s hd q u w hu=>by
 rcases QW e q with z|z
 .exact f d x y s hd z u w hu
 .exact f d y x s hd z u w hu.symm
theorem j0.b_{a7:Int->Int->Prop}(g:j0 t h a7)(k:∀c a b r u,Cn t c->t.cl c=a::b::r->(u=a\/u=b)->t.val u= -1->t.S (U u)<i->t.S (U u)<h/\(a7 c u->j c u)):j0 t i j:=λc a b r d e u w hu f hs=>by
 haveI:=k c a b r u d e (hu.imp And.left And.left) f hs;exact(g c a b r d e u w hu f this.1).imp this.2 id
theorem j0.cG{a7:Int->Int->Prop}(f:j0 t h a7)(K:dY t)(h0:t.val l=0)(g:a9 t l)(hh:h<=t.tr.length):j0 (t.cG l r') h a7:=λc a b r i e u w hu d hs=>by
 have ne:U u≠U l:=λq=>by
  haveI:(t.cG l r').S (U u)=t.tr.length:=B q cU;lia
 haveI j:(t.cG l r').S (U u)=t.S (U u):=b7 ne;haveI k:(t.cG l r').ae (U u)=t.ae (U u):=b7 ne;rw[nC ne]at d;rw[j]at hs;refine(f c a b r i e u w hu d hs).imp id λm=>aU m λp q=>?_;haveI nw:=lC h0 g (by rw[p];decide)
 haveI n:(t.cG l r').ae (U w)=t.ae (U w):=b7 nw;exact⟨(nC nw).trans p,by simp only[k,n];exact q⟩
theorem Ex.cG(hr:r'≠-1)(h0:t.val l=0)(a:a9 t l):Ex t (t.cG l r'):=⟨λx Y h=>haveI ne:=lC h0 a h;(cg (nC ne) (b7 ne) (b7 ne) (b7 ne)),⟨[l],rfl⟩,λY Y=>.refl _,λx Y h g=>by
 refine dx (U x=U l) (λq=>?_) λq=>?_
 .rw[show(t.cG l r').R (U x)=r' from B q cU];exact hr
 .rw[nC q]at g;exact absurd h g⟩
def Vi(t:T)(g:Int)(a K:List Int)(i:Nat):Prop:=yZ
 (cB t)
 (dY t)
 (fY t)
 (gJ t (aW t.ws (bJ g) (K++a.drop i)))
 (j0 t t.hd λc u=>u=g/\c∈a.drop i)
 (t.ws (bJ g)=a)
 (a9 t g)
 (t.val g= -1)
 (t.S (U g)+1=t.hd)
 (t.ae (U g)=t.aK.length)
 (Bd t)
theorem Vi.cn(V:Vi t g k K i)(hi:k[i]? =some c):Cn t c/\∃o r,(t.cl c=g::o::r\/t.cl c=o::g::r):=by
 haveI hm:c∈aW t.ws (bJ g) (K++k.drop i) (bJ g):=by
  rw[cU];exact iW _ (jq (i:=0) (B List.getElem?_drop hi))
 refine gn λl=>aU (V.4.1 _ _ hm) λd f=>d7 f λa b r j=>aU j λe h=>l ?_;haveI m:=(V.2.2 c a d (B e (bE ..))).1;haveI n:=(V.2.2 c b d (B e (cP _ (bE ..)))).1;refine⟨d,?_⟩;refine Or.elim h (λh=>?_) (λh=>?_)
 .exact(cE b r (.inl (by rw[e,rU h m.1 V.7.1])))
 .exact(cE a r (.inr (by rw[e,rU h n.1 V.7.1])))
theorem Vi.swap(V:Vi t g a K i)(b:Cn t c)(e:t.cl c=g::o::r):Vi (t.cu c (o::g::r)) g a K i:=
 haveI p:=B e (List.Perm.swap ..)
 ⟨⟨V.1.1,V.1.2,V.1.3,V.1.4,V.1.5,V.1.6⟩,V.2.cu p,V.3.cu p,V.4.swap e,V.5.swap e,V.6,V.7,V.8,V.9,V.10,V.11.cu b p⟩
theorem zU{a:List Int}(hi:a[i]? =some c):a.drop i=c::a.drop (i+1):=by
 haveI b:=fR.mp hi;haveI h:=b.1;haveI e:=b.2;exact B (List.drop_eq_getElem_cons h)<|B e rfl
theorem Ob{a K:List Int}(hi:a[i]? =some c):(K++[c])++a.drop (i+1)=K++a.drop i:=by simp only[zU hi,iX];rfl
theorem Vi.FG(V:Vi t g b K i)(a:a9 t x)(h:t.val x=1):t.ae (U x)<=t.ae (U g):=B V.10 ((V.1.6 _ _ (V.1.4 x a h).2).2.1)
theorem Vi.keep(V:Vi t g l K i)(hi:l[i]? =some c)(m:Cn t c)(e:t.cl c=o::g::r)(h:t.val o=1):Vi t g l (K++[c]) (i+1):=by
 haveI lo:=(V.2.2 c o m (B e (bE ..))).1;refine⟨V.1,V.2,V.3,by refine(Ob hi)▸?_;exact V.4,λd a b s hd q u w hu j hs=>?_,V.6,V.7,V.8,V.9,V.10,V.11⟩
 refine(V.5 d a b s hd q u w hu j hs).elim (λv=>aU v λn k=>?_) .inr;rw[zU hi]at k;rcases dW.mp k with z|z
 .clear hi m k;subst z;subst n;replace q:=e▸q;injection q with q;subst q
  rcases hu with⟨p,f⟩|⟨p,f⟩
  .rw[p,h]at j;exact absurd j (by decide)
  .haveI f:=f.symm;subst f;exact .inr ⟨h,V.FG lo h⟩
 .exact .inl ⟨n,z⟩
theorem cB.len(c:cB t):t.tr.length<=t.n:=by
 haveI:=pW (n:=t.n) (l:=t.tr.map U) (List.pairwise_iff_getElem.mpr λi j hi d lt e=>?_) λx g=>?_
 .rwa[b9]at this
 .rw[b9]at hi d;simp only[List.getElem_map,List.getElem_map]at e;haveI a:=(c.3 i _ (dZ hi)).2.2;haveI b:=(c.3 j _ (dZ d)).2.2;rw[e,b]at a;exact Nat.ne_of_lt lt (Int.ofNat.inj a).symm
 .refine az (cW.mp g) λy f=>aU f λh k=>?_;clear f;subst k;obtain⟨i,e⟩:=List.mem_iff_getElem?.mp h;exact(c.3 i y e).1.U
theorem Bd.cG(b:Bd t)(a:cB t)(c:a9 t l)(h0:t.val l=0):Bd (t.cG l r):=⟨b.1,aV (a.cG c h0).len b.1,b.3,b.4,b.5,b.6⟩
theorem GC:∀{r:List Int} {j:Nat},r[j]? =some x->(x::r.set j g).Perm (g::r)
 |[],j,h=>nn h
 |y::r,0,h=>by injection h with h;subst h;exact .swap ..
 |y::r,j+1,h=>(List.Perm.swap ..).trans (((GC (r:=r) h).cons y).trans (.swap ..))
theorem gJ.afK{t:T}{W:Int->List Int}{p q c o g x:Int}{r r' L1 L2:List Int}(i:gJ t W)(I:W p=L1++c::L2)(e:t.cl c=o::g::r)(hp:bJ g=p)(hq:bJ x=q)(J:q≠p)(L:bJ o≠q)(po:bJ o≠p)(X:Cn t c):gJ (t.cu c (o::x::r')) (aW (aW W q (W q++[c])) p (L1++L2)):=by
 haveI n:=i.3 p;replace n:=I▸n;have M:=jB.mp n;have Z:=λh=>(dT.mp h).elim (λh=>M.2.2 c h c (bE ..) rfl) (jb.mp M.2.1).1;have sub:∀d,d≠c->(d∈W p↔d∈L1++L2):=λd hd=>by rw[I,dT,dT,dW];exact⟨Or.imp id λh=>h.resolve_left hd,Or.imp id .inr⟩
 have new:∀s,bJ o=s\/bJ x=s->∃a b r0,(t.cu c (o::x::r')).cl c=a::b::r0/\(bJ a=s\/bJ b=s):=λs h=>d_ o x r' (fF nY h);haveI C:aW (aW W q (W q++[c])) p (L1++L2) p=L1++L2:=cU;have u:aW (aW W q (W q++[c])) p (L1++L2) q=W q++[c]:=(b7 J).trans cU;have v:∀s,s≠p->s≠q->aW (aW W q (W q++[c])) p (L1++L2) s=W s:=λs k j=>(b7 k).trans (b7 j);have l:∀s d,d≠c->d∈W s->Cn t d/\∃a b r0,(t.cu c (o::x::r')).cl d=a::b::r0/\(bJ a=s\/bJ b=s):=λs d hd h=>by
  exact gn λE=>aU (i.1 s d h) λk Zc=>d7 Zc λa b r0 Ze=>aU Ze λj m=>E<|(fF k (d_ a b r0 (fF ((nZ hd).trans j) m)))
 have G:=λh=>by
  refine aU (i.1 q c h) λY N=>d7 N λa b r0 P=>aU P λj m=>?_;clear N P;rw[e]at j;cases j;exact m.elim L λz=>J (z.symm.trans hp)
 have A:∀s d,d≠c->d∈W s->d∈aW (aW W q (W q++[c])) p (L1++L2) s:=λs d hd h=>by
  by_cases z:(s=p)
  .have z:=z.symm;subst z;exact B C ((sub d hd).mp h)
  .refine dx (s=q) (λf=>?_) λf=>?_
   .have f:=f.symm;subst f;exact B u (lO _ h)
   .exact B (v s z f) h
 refine⟨λs d hd=>?_,λd a b r0 hd h=>?_,λs=>?_⟩
 .rcases cY (s=p)with z|z
  .haveI z:=z.symm;subst z;rw[C]at hd;have dc:d≠c:=λw=>Z (aT w hd);exact l _ d dc ((sub d dc).mpr hd)
  .refine dx (s=q) (λf=>?_) (λf=>?_)
   .haveI f:=f.symm;subst f;rw[u]at hd;rcases cY (d=c)with w|w
    .haveI w:=w.symm;subst w;exact⟨X,new _ (.inr hq)⟩
    .exact l _ d w ((dT.mp hd).resolve_right λh=>w (cL.mp h))
   .rw[v s z f]at hd;by_cases w:(d=c)
    .refine gn λE=>?_;clear l G A;subst w;refine aU (i.1 s d hd) λk Q=>d7 Q λa b r0 R=>aU R λj m=>E ?_;clear Q R;rw[e]at j;cases j;exact⟨k,new _ (.inl (m.resolve_right λy=>z (y.symm.trans hp)))⟩
    .exact l _ d w hd
 .rcases cY (d=c)with w|w
  .clear l G A;subst w;replace h:=nY▸h;cases h;simp only[hq,u,v _ po L];exact⟨(i.2 d o g r hd e).1,iW _ (jo d)⟩
  .rw[nZ w]at h;exact⟨A _ d w (i.2 d a b r0 hd h).1,A _ d w (i.2 d a b r0 hd h).2⟩
 .rcases cY (s=p)with z|z
  .have z:=z.symm;subst z;exact B C (n.sublist ((List.Sublist.refl L1).append (List.sublist_cons_self c L2)))
  .refine dx (s=q) (λf=>?_) (λf=>?_)
   .haveI f:=f.symm;subst f;exact B u (jB.mpr ⟨i.3 _,by simp,λa ha b hb q=>G (cL.mp hb▸q▸ha)⟩)
   .exact B (v s z f) (i.3 s)
theorem gJ.congr(f:gJ t ws)(e:ws=k0)(h:J.cl=t.cl)(hm:J.m=t.m):gJ J k0:=by
 subst e;exact⟨λp c d=>by haveI:=f.1 p c d;unfold Cn at this⊢;exact h▸hm▸this,λc a b r d q=>f.2 c a b r (by unfold Cn at d⊢;exact aT hm<|d) (aT h q),f.3⟩
theorem Vi.ne(V:Vi t g b K i)(a:Cn t c)(e:t.cl c=o::g::r):o≠g/\a9 t o:=by
 haveI d:=V.2.1 c a;rw[e]at d;exact⟨λq=>(jb.mp d).1 (B q (bE ..)),(V.2.2 c o a (B e (bE ..))).1⟩
theorem Vi.afL(V:Vi t g v K i)(hi:v[i]? =some c)(f:Cn t c)(e:t.cl c=o::g::r)(y:r[j]? =some x)(I:t.val x≠-1)(bw:∀p,(t.ws p).length<15000000):Vi ((t.cu c (o::x::r.set j g)).r8 (bJ x) c) g v K (i+1):=by
 refine aU (V.ne f e) λA lo=>?_;haveI dd:=V.2.1 c f;replace dd:=e▸dd;have k:=jq y;have l:o≠x:=λq=>(jb.mp dd).1 (B q (cP _ k));have J:x≠g:=λq=>(jb.mp (jb.mp dd).2).1 (aT q k);have C:=(V.2.2 c x f (B e (cP _ (cP _ k)))).1;have p:(o::x::r.set j g).Perm (t.cl c):=B e ((GC y).cons o);have m:bJ x≠bJ g:=λz=>J (rU z C.1 V.7.1);have mv:=V.4.afK (r':=r.set j g) (cU.trans (aP (K++ ·) (zU hi))) e rfl rfl m (λz=>l (rU z lo.1 C.1)) (λz=>A (rU z lo.1 V.7.1)) f
 haveI b1:=V.11.cu f p;haveI E:=V.2.cu p;refine⟨⟨V.1.1,V.1.2,V.1.3,V.1.4,V.1.5,V.1.6⟩,⟨E.1,E.2⟩,⟨(V.3.cu p).1⟩,mv.congr (funext λs=>?_) rfl rfl,λd a b s hd q u w hu n hs=>?_,(b7 (cQ m)).trans V.6,V.7,V.8,V.9,V.10,⟨b1.1,b1.2,b1.3,b1.4,b1.5,λs=>?_⟩⟩
 .show aW (aW _ _ _) _ _ s=aW (aW t.ws _ _) _ _ s;rcases cY (s=bJ g)with z|z
  .subst z;simp only[cU,cU]
  .rw[b7 z,b7 z];refine dx (s=bJ x) (λh=>?_) (λh=>?_)
   .subst h;rw[cU,cU,b7 m];rfl
   .rw[b7 h,b7 h,b7 z]
 .rcases cY (d=c)with z|z
  .subst z;replace q:=nY▸q;cases q;rcases hu with⟨rfl,rfl⟩|⟨rfl,rfl⟩
   .refine absurd (V.5 d u g r f e u g (.inl ⟨rfl,rfl⟩) n hs) λz=>z.elim (λz=>A z.1) λz=>?_;have z:=V.8.symm.trans z.1;exact absurd z (by decide)
   .exact absurd n I
  .haveI q:(t.cu c (o::x::r.set j g)).cl d=a::b::s:=q;rw[nZ z]at q;refine(V.5 d a b s hd q u w hu n hs).imp (λL=>aU L λM G=>⟨M,?_⟩) id;rw[zU hi]at G;exact(dW.mp G).resolve_left z
 .show(aW t.ws _ _ s).length<=_;unfold aW;split
  .exact B cx (bw _)
  .exact V.11.6 s
theorem Vi.unit(V:Vi t g a K i)(hi:a[i]? =some c)(b:Cn t c)(e:t.cl c=o::g::r)(h0:t.val o=0)(hr:∀x∈r,t.val x= -1):Vi (t.cG o c) g a (K++[c]) (i+1):=by
 haveI f:=V.ne b e;have lo:=f.2;haveI ne:=lC h0 lo (by rw[V.8];decide)
 haveI hh:t.hd<=t.tr.length:=by haveI:=(V.1.neg V.7 V.8).2.2;haveI:=V.9;lia
 haveI h:Vi (t.cG o c) g a K i:=⟨V.1.cG lo h0,⟨V.2.1,V.2.2⟩,V.3.cG V.1 V.2 lo h0 (.inr ⟨b,B e (bE ..),λx d j=>by
  rw[e]at d;rcases dW.mp d with z|z
  .exact absurd z j
  .rcases dW.mp z with z|z
   .exact B z V.8
   .exact hr x z⟩),⟨V.4.1,V.4.2,V.4.3⟩,V.5.cG V.2 h0 lo hh,V.6,V.7,(nC ne).trans V.8,(aP (·+1) (b7 ne)).trans V.9,(b7 ne).trans V.10,V.11.cG V.1 lo h0⟩
 exact h.keep hi b e (uy lo.1).1
def Vp(t:T)(h:Int):Prop:=Q6
 (cB t)
 (dY t)
 (fY t)
 (gJ t t.ws)
 (j0 t h λY Y=>False)
 (Bd t)
theorem Vi.U5{t:T}{g:Int}{d K:List Int}{i:Nat}{c:Int}(V:Vi t g d K i)(hi:d[i]? =some c)(f:(K++[c]++d.drop (i+1)).length<=15000000):Vp (t.k0 (aW t.ws (bJ g) (K++[c]++d.drop (i+1)))) (t.hd-1):=by
 refine⟨⟨V.1.1,V.1.2,V.1.3,V.1.4,V.1.5,V.1.6⟩,⟨V.2.1,V.2.2⟩,⟨V.3.1⟩,V.4.congr (by refine aT (Ob hi) ?_;rfl) rfl rfl,V.5.b_ λc a b r u h e hu j hs=>⟨by lia,λz=>?_⟩,⟨V.11.1,V.11.2,V.11.3,V.11.4,V.11.5,λs=>?_⟩⟩
 .rw[z.1]at hs;haveI:=V.9;lia
 .show(aW t.ws _ _ s).length<=_;unfold aW;split
  .exact f
  .exact V.11.6 s
theorem Vi.done{t:T}{g:Int}{d K:List Int}{i:Nat}(V:Vi t g d K i)(hi:d.length<=i)(f:K.length<=15000000):Vp (t.k0 (aW t.ws (bJ g) K)) t.hd:=by
 haveI e:=List.drop_eq_nil_of_le hi;refine⟨⟨V.1.1,V.1.2,V.1.3,V.1.4,V.1.5,V.1.6⟩,⟨V.2.1,V.2.2⟩,⟨V.3.1⟩,V.4.congr (by rw[e,fQ];rfl) rfl rfl,V.5.b_ λc a b r u j k hu l hs=>⟨hs,λz=>?_⟩,⟨V.11.1,V.11.2,V.11.3,V.11.4,V.11.5,λs=>?_⟩⟩
 .rw[e]at z;exact absurd z.2 (λh=>gh h)
 .show(aW t.ws _ _ s).length<=_;unfold aW;split
  .exact f
  .exact V.11.6 s
theorem zL{Z:H}(h:b≠a):Z.jQ a b=Z b:=bx h
theorem QH(M:Mem I t Z A)(i:Ev C l A o (.ref p))(he:fX C l A e ws)(d:Z p=some (.list E))(c:E.length+ws.length<=bf)(k:∀g,Mem I t (Z.set p (.list (E++ws))) g->Ss C r l g Q):Ss C (.expr (.ext o e)::r) l A Q:=by
 refine i _ ⟨⟨_,rfl,E,M.3 _ _ d⟩,he _ λa ha=>?_⟩;haveI f:p≠a:=λq=>by replace ha:=q.symm▸ha;replace ha:=(M.3 _ _ d)▸ha;exact ns ha
 haveI h:=M.dy (o:=.list ws) (.inl ha);refine(fh _ _ E ws (oy rfl rfl f (h.3 _ _ (by rw[H.a6 f];exact d)) H.bC c (k _ ((h.dy (.inr ⟨.list E,by rw[H.a6 f];exact d⟩)).fD λb y c=>?_))))
 rcases cY (b=p)with q|q
 .haveI q:=q.symm;subst q;rw[H.bC]at c⊢;exact c
 .rw[H.a6 q]at c⊢;have:b≠a:=λw=>by replace c:=w▸c;replace c:=(M.dP ha)▸c;exact nn c
  exact B (H.a6 this) c
theorem BC(h:aD≠.w i):j7 I i a aD=I aD:=by
 cases aD<;>first|rfl|exact bx λq=>h (aP _ q)
theorem O5{I:bT->Nat}{i:Int}{a:Nat}:(λj=>V.ref (j7 I i a (.w j)))=aW (λj=>.ref (I (.w j))) i (.ref a):=by
 funext j
 show V.ref (if j=i then a else I (.w j))=if j=i then _ else _
 split<;>rfl
def Bo(aa a:Prop)(v:V):Prop:=∃b,v=.bool b/\(b=true->aa)/\(b=false->a)
theorem Du(h:aa):Bo aa a (.bool true):=⟨true,rfl,λY=>h,nt⟩
theorem Iq(h:a):Bo aa a (.bool false):=⟨false,rfl,λz=>nf z,λY=>h⟩
theorem aiz(a:Ev C l A b (.bool true))(c:aB C d l A λv A=>Bo (Bo (Ss C t l A (Nx C r Q)) (Ss C e l A (Nx C r Q)) (.bool true)) (Bo (Ss C t l A (Nx C r Q)) (Ss C e l A (Nx C r Q)) (.bool false)) v):Ss C (.ite (.and [b,d]) t e::r) l A Q:=
 a _ (Du c)
theorem aiH{C:Cx}{l:aH}{A Z:H}{I:bT->Nat}{t:T}{Q:Fl->aH->H->Prop}{r:List St}{o i e:a7}{a:Nat}{x:Int}{xs:List Int}(M:Mem I t Z A)(b:Bd t)(he:Ev C l A e (.ref a))(m:Ev C l A o (.ref (I .ws)))(hi:Ev C l A i (.int (bJ x)))(p:a9 t x)(ha:Z a=some (.list (Zl xs)))(k:∀g,Mem (j7 I (bJ x) a) (t.k0 (aW t.ws (bJ x) xs)) (Z.jQ a) g->Ss C r l g Q):Ss C (.fK o i e::r) l A Q:=by
 haveI bn:2*t.n+2<=bf:=aV (Nat.add_le_add_right (Nat.mul_le_mul_left 2 b.1) 2) (bt rfl);haveI hp:=tE p;refine he _ (m _ (hi _ (fh _ _ _ _ (ee rfl rfl (M.1 .ws _ rfl) (B fJ bn) (B fJ (mA hp.1 hp.2)) (k _ ?_)))));refine B (wq hp.1)<|aT O5<|M.mv (.w (bJ x)) .ws rfl (bT.ne rfl) ha (bA rfl) (λaD h=>BC h) ((bA hp).trans (aP (λy=>some (bN.list (Zl y))) cU)) rfl λaD d f=>?_;cases aD with
 |w j=>exact aP (λy=>if 0<=j/\j<2*t.n+2 then some (bN.list (Zl y))else none) (b7 λq=>d (aP _ q))
 |ob c=>clear d f;cases c<;>rfl
 |«at» c=>clear d f;cases c<;>rfl
 |ws=>exact absurd rfl f
 |_=>rfl
structure PG where
 aa:Int->Int
 ae:Int->Int
 R:Int->Int
 S:Int->Int
 tr:List Int
 cl:Int->List Int
 ws:Int->List Int
 hd:Int
noncomputable def T.pg(t:T)(s:PG):T:={t with aa:=s.aa,ae:=s.ae,R:=s.R,S:=s.S,tr:=s.tr,cl:=s.cl,ws:=s.ws,hd:=s.hd}
def Pg(t J:T):Prop:=∃s,J=t.pg s
theorem Pg.gX:Pg t t:=⟨⟨t.aa,t.ae,t.R,t.S,t.tr,t.cl,t.ws,t.hd⟩,by cases t;rfl⟩
theorem Pg.trans(a:Pg t t1)(b:Pg t1 c):Pg t c:=by
 refine az a λs d=>?_;try clear a
 subst d;obtain⟨u,rfl⟩:=b;exact⟨u,rfl⟩
theorem Pg.n(a:Pg t J):J.n=t.n:=by refine az a λs b=>?_;try clear a;subst b;rfl
theorem Pg.m(a:Pg t J):J.m=t.m:=by obtain⟨s,rfl⟩:=a;rfl
theorem Pg.cu:Pg t (t.cu c x):=⟨⟨t.aa,t.ae,t.R,t.S,t.tr,aW t.cl c x,t.ws,t.hd⟩,rfl⟩
theorem Pg.w:Pg t (t.k0 x):=⟨⟨t.aa,t.ae,t.R,t.S,t.tr,t.cl,x,t.hd⟩,rfl⟩
theorem Pg.h:Pg t (t.EJ x):=⟨⟨t.aa,t.ae,t.R,t.S,t.tr,t.cl,t.ws,x⟩,rfl⟩
theorem Pg.cG:Pg t (t.cG l r):=⟨⟨_,_,_,_,_,t.cl,t.ws,t.hd⟩,rfl⟩
theorem gJ.len(a:gJ t ws)(p:Int):(ws p).length<=t.m:=by
 haveI:=pW (List.pairwise_map.mpr ((a.3 p).imp λh e=>h (Int.add_right_inj 1|>.mp (by simp only[Int.add_comm 1,Int.add_comm 1];exact e)))) λx c=>by
  refine az (cW.mp c) λy b=>aU b λd f=>?_;clear b;subst f;haveI:=(a.1 p y d).1;exact⟨Int.add_le_add_right this.1 1,Int.add_one_le_of_lt this.2⟩
 rwa[b9]at this
def HV(t J:T)(res:Int):Prop:=Q4
 (Pg t J)
 (Ex t J)
 (J.hd=t.hd)
 ((res= -1/\Vp J J.hd)\/(Cn J res/\(∀x∈J.cl res,J.val x= -1)/\Vp J (J.hd-1)))
def Vl(t0:T)(I:bT->Nat)(Z A:H)(g:Int)(b:List Int)(a:Nat)(l:aH)(t:T)(K:List Int)(i:Nat):Prop:=yZ
 (Vi t g b K i)
 (Pg t0 t)
 (Ex t0 t)
 (t.hd=t0.hd)
 (K.length<=i)
 (i<=b.length)
 (Mem I t (Z.set a (.list (Zl K))) A)
 (l .X=some (me I))
 (l .fZ=some (.int g))
 (l .vQ=some (.ref (I (.w (bJ g)))))
 (l .de=some (.ref a))
theorem ajw(M:Mem I t Z A)(V0:Vi t g (t.ws (bJ g)) [] 0)(q:∀af bD J res,(∀aD,(∀p,aD≠.w p)->bD aD=I aD)->Mem bD J Z af->HV t J res->Q (.int res) af):aA (k+3) .HU [me I,.int g] A Q:=by
 have G:=V0.11;have L:(t.ws (bJ g)).length<=t.m:=by haveI:=V0.4.len (bJ g);rwa[cU]at this
 generalize hW:t.ws (bJ g)=W0 at V0 L;have pl:∀{C:Cx} {l:aH} {A:H} {e:a7},(∀x,∀Q:V->H->Prop,Q (.int (bJ x)) A->C .ot [.int x] A Q)->Ev C l A e (.int g)->Ev C l A (.call .ot [e]) (.int (bJ g)):=λh he=>nE (aI he aX) (h g);refine⟨_,rfl,?_⟩;refine uF M G (bY M rfl rfl rfl) (pl (λx Q q=>tD Q q) (O rfl)) V0.7 _ λa ha=>cE _ _ (aS rfl rfl ?_);haveI M:=M.dy (o:=.list (Zl [])) (.inl ha);haveI na:=(show Z a=none from by cases e:Z a with|none=>rfl|some o=>exact absurd (‹Mem I t Z A›.3 _ _ e) (B ha nn))
 have bZ:∀l A J K res,l .X=some (me I)->l .fZ=some (.int g)->l .de=some (.ref a)->l .gj=some (.int res)->Bd J->Pg t J->Mem I J (Z.set a (.list (Zl K))) A->HV t (J.k0 (aW J.ws (bJ g) K)) res->
  Ss (aA (k+2)) [.fK (.aC (.var .X) .lN) (.call .ot [.var .fZ]) (.var .de),.ret (.var .gj)] l A λfl Y A=>Q fl.val A:=λl A J K res s N l3 W b pg M R=>by
  refine aiH M b (O ‹_›) (bY M ‹_› rfl rfl) (pl (λx Q q=>tD Q q) (O ‹_›)) (by unfold a9;exact pg.n▸V0.7) H.bC λA M=>?_
  refine cI (O ‹_›) (q A _ _ res (λaD h=>BC (h _)) (M.fD λy o d=>?_) R);haveI ya:y≠a:=λw=>by replace d:=w▸d;replace d:=na▸d;exact nn d
  exact B (zL ya)<|B (H.a6 ya)<|d
 refine rZ (λi l A=>∃j:Nat,i=j/\l .gj=some (.int (-1))/\∃J K,Vl t I Z A g W0 a l J K j) (jt M (O rfl) (ui V0.7) (B hW (aV L (c9 G.bm))) (B hW rfl)) (mW (aV L (c9 (Nat.lt_trans G.4 (by decide)))))
  ⟨0,rfl,rfl,t,[],V0,.gX,.gX,rfl,dR _,fw _,M,rfl,rfl,rfl,rfl⟩ ?_ ?_
 .intro Y l A hi xp P p1 p2 Y;refine gn λkG=>az xp λi K1=>br K1 λZQ l5 K2=>cF K2 λJ K ae=>?_;clear K1 K2;try clear xp
  subst ZQ;have mh:=g9.mp hi;have u:=dZ mh;generalize W0[i]=c at u;haveI V:=ae.1;haveI pg:=ae.2;haveI ex:=ae.3;haveI hd:=ae.4;haveI kl:=ae.5;haveI il:=ae.6;haveI M:=ae.7;haveI s:=ae.8;haveI N:=ae.9;haveI l3:=ae.10;haveI W:=ae.11;haveI bl:=df kl (j_ mh (aV L (c9 G.bm)));obtain⟨f,E⟩:=V.cn u;refine kG<|dG (kh M (O ‹_›) (O rfl) (ui V.7) (V.6▸aV L (c9 G.bm)) (aT V.6.symm u))<|dG (mc M V.11 (bY M ‹_› rfl rfl) (O rfl) f)<|bL (qb (O rfl) λh=>nomatch h) nf λY=>c7 ?_
  have aY:∀l A J o r,Vl t I Z A g W0 a l J K i->l .gj=some (.int (-1))->l .cT=some (.int i)->l .bO=some (.int c)->l .bR=some (.ref (I (.c c)))->Cn J c->J.cl c=o::g::r->
   Ss (aA (k+2)) [.ite (.and [.eq true (.aZ (.var .X) .aO .ic [.aQ (.var .bR) (.int 0)]) (.dO "TRUE" 1),.aZ (.var .X) .aO .zf [.var .bO,.var .bR]])
   [.cont]
   [],
   .expr (.c8 (.var .de) (.var .bO)),
   .ite (.eq false (.aZ (.var .X) .aO .ic [.aQ (.var .bR) (.int 0)]) (.dO "FALSE" (-1)))
    [.bP .gj (.var .bO),
     .expr (.ext (.var .de) (.from (.var .vQ) (.cJ .add (.var .cT) (.int 1)))),
     .brk]
    [],
   .ite (.eq false (.aZ (.var .X) .aO .ic [.aQ (.var .bR) (.int 0)]) (.dO "UNKNOWN" 0))
    [.expr (.aZ (.var .X) .aO .pE [.aQ (.var .bR) (.int 0),.var .bO])]
    []] l A P:=by
   intro l A J o r ae l5 l6 ae3 l8 f e;refine gn λkG=>?_;haveI V:=ae.1;haveI pg:=ae.2;haveI ex:=ae.3;haveI hd:=ae.4;haveI kl:=ae.5;haveI il:=ae.6;haveI M:=ae.7;haveI s:=ae.8;haveI N:=ae.9;haveI l3:=ae.10;haveI W:=ae.11;obtain⟨og,lo⟩:=V.ne f e;refine kG ?_;haveI Ds:(K++[c]).length<=i+1:=B cx (Nat.succ_le_succ kl);haveI ei:((i:Int)+1)=((i+1)):=rfl;have ev:∀{Z A},Mem I J Z A->∀l,l .X=some (me I)->l .bR=some (.ref (I (.c c)))->Ev (aA (k+2)) l A (.aZ (.var .X) .aO .ic [.aQ (.var .bR) (.int 0)]) (.int (J.val o)):=λM l a a'=>
    gA M (O ‹_›) bb (aI (nD (k:=0) M V.11 (O ‹_›) a8 f (by refine B e ?_;rfl)) aX) (qL M V.11.1 lo)
   have c8:∀{rr:List St} {bj A},Mem I J bj A->bj=Z.set a (.list (Zl K))->(∀af,Mem I J (Z.set a (.list (Zl (K++[c])))) af->Ss (aA (k+2)) rr l af P)->Ss (aA (k+2)) (.expr (.c8 (.var .de) (.var .bO))::rr) l A P:=λ{rr bj A} M h kk=>by
    subst h;refine m4 M (O ‹_›) (O ‹_›) H.bC (B cj bl) λA M=>kk A (M.fD λy z d=>?_);rcases cY (y=a)with w|w
    .have w:=w.symm;subst w;rw[H.bC]at d⊢;exact B j5 d
    .rw[H.a6 w]at d;rw[H.a6 w,H.a6 w];exact d
   haveI bw:∀p,(J.ws p).length<15000000:=λp=>by
    rcases cY (p=bJ g)with z|z
    .exact B z<|B V.6<|df L (Nat.lt_trans G.4 (by decide))
    .haveI:=V.4.len p;rw[b7 z,pg.m]at this;exact df this (Nat.lt_trans G.4 (by decide))
   have mv:∀{rr:List St},(decide (J.val o=1) !=true)=true->(∀A,Mem I J (Z.set a (.list (Zl K))) A->(∀x∈r,J.val x= -1)->Ss (aA (k+2)) rr l A P)->Ss (aA (k+2)) (.ite (.and [.eq true (.aZ (.var .X) .aO .ic [.aQ (.var .bR) (.int 0)]) (.dO "TRUE" 1),.aZ (.var .X) .aO .zf [.var .bO,.var .bR]]) [.cont] []::rr) l A P:=λhv kk=>by
    refine aiz (di (ev M _ s l8) eG hv) (iP M (O ‹_›) bb (aI (O ‹_›) (aI (O ‹_›) aX)) (afM M V.11 V.2 f (B e (Nat.le_add_left 2 r.length)) (λA M hF=>Iq (Iq (c7 (kk A M λx u=>?_)))) λA j x y j2 u d hv M=>Du (Du (GH (p1 _ _ ?_).2))))
    .obtain⟨n,hn⟩:=List.mem_iff_getElem?.mp u;exact hF (n+2) x (Nat.le_add_left 2 n) (aT e.symm hn)
    .refine gn λkG=>?_;obtain⟨n,rfl⟩:∃n,j=n+2:=⟨j-2,(Nat.sub_add_cancel j2).symm⟩;rw[e]at u d M;injection d with d;subst d
     refine kG ?_;haveI u:r[n]? =some x:=u;haveI p:(o::x::r.set n g).Perm (J.cl c):=B e ((GC u).cons o);exact⟨i+1,ei,l5,_,K,V.afL ‹_› f e u hv bw,(pg.trans .cu).trans .w,⟨(ex.trans (Ex.cu p) pg.n pg.m).1,ex.2,(ex.trans (Ex.cu p) pg.n pg.m).3,(ex.trans (Ex.cu p) pg.n pg.m).4⟩,hd,Nat.le_succ_of_le kl,mh,M,s,N,l3,W⟩
   rcases V.1.val lo with v|v|v
   .refine mv (by refine B v ?_;rfl) λA M hr=>c8 M rfl λA M=>?_
    refine bL (di (ev M _ s l8) eG (by refine B v ?_;rfl)) nf λY=>c7 ?_
    refine bL (di (ev M _ s l8) eG (by refine B v ?_;rfl)) (λY=>?_) nt
    refine eX M (O ‹_›) bb (aI (nD (k:=0) M V.11 (O ‹_›) a8 f (by refine e▸?_;rfl)) (aI (O ‹_›) aX)) (wY M V.11 lo λA M=>c_ (p1 _ _ ?_).1)
    exact⟨i+1,ei,l5,J.cG o c,K++[c],V.unit u f e v hr,pg.trans .cG,ex.trans (Ex.cG (λe=>absurd (e▸f.1) (by decide)) v lo) pg.n pg.m,hd,Ds,mh,M,s,N,l3,W⟩
   .refine bL (b:=false&&true) (gT (dC (di (ev M _ s l8) eG (by rw[v];rfl)) nf)) nf λY=>c7 (c8 M rfl λA M=>?_)
    refine bL (di (ev M _ s l8) eG (by refine B v ?_;rfl)) nf λY=>c7 ?_
    refine bL (di (ev M _ s l8) eG (by refine B v ?_;rfl)) nf λY=>c_ (p1 _ _ ?_).1
    exact⟨i+1,ei,l5,J,K++[c],V.keep u f e v,pg,ex,hd,Ds,mh,M,s,N,l3,W⟩
   .refine mv (by refine B v ?_;rfl) λA M hr=>c8 M rfl λA M=>?_
    haveI ld:(W0.drop (i+1)).length+(i+1)=W0.length:=B List.length_drop (Nat.sub_add_cancel mh);have lx:(K++[c]++W0.drop (i+1)).length<=W0.length:=by rw[cx,Nat.add_comm];exact aT ld<|Nat.add_le_add_left Ds _
    refine bL (di (ev M _ s l8) eG (by refine B v ?_;rfl)) (λY=>?_) nt
    refine dG (O ‹_›) (QH M (O ‹_›) (N3▸V.6▸JN (j:=i+1) (O ‹_›) (dz (op:=.add) (O ‹_›) a8 rfl trivial) (M.1 _ _ (ui V.7)) (by refine B cj ?_;refine B V.6 ?_;exact aV L (c9 G.bm)) (mW (aV mh (aV L (c9 (Nat.lt_trans G.4 (by decide))))))) H.bC ?_ λA M=>GG (p2 _ _ ?_))
    .exact B cj<|B cj<|aT cx<|aV lx (aV L (c9 G.bm))
    .refine bZ _ A J (K++[c]++W0.drop (i+1)) c s N W rfl V.11 pg (M.fD λy z d=>?_) ⟨pg.trans .w,ex,hd,.inr ⟨f,λx lF=>?_,V.U5 u (aV lx (aV L (c9 (Nat.lt_trans G.4 (by decide)))))⟩⟩
     .rcases cY (y=a)with w|w
      .haveI w:=w.symm;subst w;rw[H.bC]at d⊢;exact aT d (aP (λy=>some (bN.list y)) (iJ).symm)
      .rw[H.a6 w]at d;rw[H.a6 w,H.a6 w];exact d
     .have lF:x∈J.cl c:=lF;rw[e]at lF;rcases dW.mp lF with z|z
      .exact B z<|v
      .rcases dW.mp z with z|z
       .exact B z V.8
       .exact hr x z
  have g0:∀{A x},Mem I J (Z.set a (.list (Zl K))) A->(J.cl c)[0]? =some x->Ev (aA (k+2)) (((l.set .cT (.int i)).set .bO (.int c)).set .bR (.ref (I (.c c)))) A (.eq false (.aQ (.var .bR) (.int 0)) (.var .fZ)) (.bool (decide (x=g) !=false)):=λM h=>di (nD M V.11 (O rfl) a8 f h) (O ‹_›) rfl;rcases cY (∃o r,J.cl c=g::o::r)with⟨o,r,E⟩|hn
  .refine bL (g0 (x:=g) M (by refine E▸?_;rfl)) (λY=>?_) λz=>by rw[cO rfl]at z;exact nt z
   haveI Oq:1< (J.cl c).length:=B E (Nat.succ_lt_succ (Nat.zero_lt_succ _));refine QM M V.11 f rfl (nD (k:=1) M V.11 (O rfl) a8 f (by refine B E ?_;rfl)) (O ‹_›) (λY=>a8) (λY=>a8) (Nat.lt_of_succ_lt Oq) Oq λA M=>c7 ?_
   haveI es:((J.cl c).set 0 o).set 1 g=o::g::r:=by refine B E ?_;rfl
   replace M:=es▸M;haveI p:(o::g::r).Perm (J.cl c):=B E (List.Perm.swap ..);exact aY _ _ (J.cu c (o::g::r)) o r ⟨V.swap f E,pg.trans .cu,ex.trans (Ex.cu p) pg.n pg.m,hd,kl,il,M,s,N,l3,W⟩ l5 rfl rfl rfl f nY
  .obtain⟨o,r,E⟩:=E;have E:=E.resolve_left λz=>hn (cE _ _ z);haveI og:=(V.ne f E).1;refine bL (g0 M (by refine B E ?_;rfl)) (λz=>by replace z:=(dp og)▸z;exact nf z) λY=>c7 ?_
   exact aY _ _ J o r ⟨V,pg,ex,hd,kl,il,M,s,N,l3,W⟩ l5 rfl rfl rfl f E
 .intro Y l A hi uJ;refine gn λkG=>az uJ λi K4=>aU K4 λEj ZU=>?_;clear K4;try clear uJ
  subst Ej;refine aU ZU λl5 ZV=>cF ZV λJ K ae=>?_;haveI mh:=Int.ofNat_le.mp hi;haveI V:=ae.1;haveI pg:=ae.2;haveI ex:=ae.3;haveI hd:=ae.4;haveI kl:=ae.5;haveI il:=ae.6;haveI M:=ae.7;haveI s:=ae.8;haveI N:=ae.9;haveI l3:=ae.10;haveI W:=ae.11;exact kG<|bZ l A J K (-1) s N W l5 V.11 pg M ⟨pg.trans .w,ex,hd,.inl ⟨rfl,V.done mh (aV kl (aV il (aV L (c9 (Nat.lt_trans G.4 (by decide))))))⟩⟩
def kE(t:T)(h:Int):Prop:=Q3
 (0<=h)
 (h<=t.tr.length)
 (∀(j:Nat) d,t.aK[j]? =some d->d<=h)
def v7(t J:T)(res:Int):Prop:=Q5
 (Pg t J)
 (Ex t J)
 (J.hd=J.tr.length)
 (J.aK=t.aK)
 ((res= -1/\Vp J J.hd)\/(Cn J res/\(∀x∈J.cl res,J.val x= -1)/\∃h,Vp J h/\kE J h))
theorem Pg.aK(a:Pg t J):J.aK=t.aK:=by refine az a λs b=>?_;try clear a;subst b;rfl
set_option tactic.hygienic true in
theorem Vp.ajv(V:Vp t t.hd)(H:kE t t.hd){i:Nat}(hi:(i:Int)=t.hd)(j:t.tr[i]? =some l):Vi (t.EJ (t.hd+1)) (-l) (t.ws (bJ (-l))) [] 0:=by
 haveI f:=V.1.3 i l j;have a:=f.1;haveI b:=f.2.1;have c:=f.2.2;haveI lv:=V.1.6 i l j;have k:t.val (-l)= -1:=by rw[kX a.1,b]
 haveI e:aW t.ws (bJ (-l)) (([])++(t.ws (bJ (-l))).drop 0)=t.ws:=funext λs=>by
  unfold aW;split
  .rename_i h;refine B h ?_;rfl
  .rfl
 refine⟨⟨V.1.1,V.1.2,V.1.3,V.1.4,V.1.5,V.1.6⟩,⟨V.2.1,V.2.2⟩,⟨V.3.1⟩,V.4.congr e.symm rfl rfl,λd m o r g q u w hu p hs=>?_,rfl,a.n,k,B dJ ((aP (·+1) c).trans (aP (·+1) hi)),?_,⟨V.6.1,V.6.2,V.6.3,V.6.4,V.6.5,V.6.6⟩⟩
 .haveI mu:u∈t.cl d:=by
   refine B q ?_;rcases hu with⟨rfl,_⟩|⟨rfl,_⟩<;>simp
  rcases Int.lt_or_eq_of_le (Int.le_of_lt_add_one hs)with z|z
  .exact(V.5 d m o r g q u w hu p z).elim False.elim .inr
  .haveI x:=(V.2.2 d u g mu).1;have:=V.1.yD x a.n p k (by simp only[dJ,c,hi];exact z)
   refine .inl ⟨this,?_⟩;haveI w:=V.4.2 d m o r g q;refine Or.elim hu (λy=>aU y λh Y=>?_) (λA=>aU A λh Y=>?_)
   .rw[<-this,h];exact w.1
   .rw[<-this,h];exact w.2
 .refine B dJ<|Int.le_antisymm lv.2.1 ?_;show t.aK.length<=t.ae (U l);cases h:t.aK.length with
  |zero=>exact lv.1
  |succ n=>
   haveI v:=dZ (B h (k5 n));exact Int.add_one_le_of_lt ((lv.2.2 n _ v).mpr (B hi (H.3 n _ v)))
theorem ahl(M:Mem I t Z A)(V:Vp t t.hd)(C:kE t t.hd)(q:∀E c J res,(∀aD,(∀p,aD≠.w p)->c aD=I aD)->Mem c J Z E->v7 t J res->Q (.int res) E):aA (k+4) .HP [me I] A Q:=by
 refine⟨_,rfl,?_⟩;refine pY (λm l A=>∃c J,(∀aD,(∀p,aD≠.w p)->c aD=I aD)/\(m:Int)=5-J.hd/\l .X=some (me c)/\Mem c J Z A/\Pg t J/\Ex t J/\Vp J J.hd/\kE J J.hd) (5-t.hd).toNat (cE I t (o8 (λY Y=>rfl) ?_ rfl M .gX .gX V C)) ?_
 .haveI:=C.2;haveI:=Int.ofNat_le.mpr V.6.2;lia
 .intro m l A G R hR P p1 Y p3;refine gn λkG=>cF G λc J L=>tY L λN hm l1 M pg ex V f=>kG ?_;clear L;try clear G
  haveI jF:=V.6.jF;refine mR (eP (bY M ‹_› rfl rfl) (jt ‹_› (bY M ‹_› rfl rfl) rfl ‹_› rfl) rfl) (λz=>?_) λz=>?_
  .have z:=dQ z;obtain⟨i,hi⟩:∃i:Nat,J.hd=i:=⟨J.hd.toNat,(Int.toNat_of_nonneg f.1).symm⟩;have hq:i<J.tr.length:=g9.mp (aT hi z);haveI u:J.tr[i]? =some (J.tr[i]'hq):=dZ hq;generalize J.tr[i]'hq=x at u;haveI eh:Ev (aA (k+3)) l A (.aC (.var .X) .head) (.int i):=hi▸(bY M ‹_› rfl rfl);refine dG (ig (kh M (bY M ‹_› rfl rfl) eh rfl jF u) rfl)<|kA M (dz (bY M ‹_› rfl rfl) a8 rfl trivial) (O ‹_›) bb DE rfl λA M=>?_;haveI V1:=V.ajv f hi.symm u;refine oX M (O ‹_›) bb (aI (O rfl) aX) (ajw M V1 λA W g res h2 M b=>?_);haveI NU:=λaD h=>(h2 aD h).trans (N aD h);haveI oQ:=l1.trans (aP (λp=>some (Mp.V.ref p)) (h2 (.ob .aO) λY h=>bT.ne rfl h).symm);haveI v:=(pg.trans (.h)).trans b.1;have o:=ex.trans ⟨b.2.1,b.2.2,b.2.3,b.2.4⟩ pg.n pg.m;haveI r:g.hd=J.hd+1:=b.3;have tl:J.tr.length<=g.tr.length:=by
    refine az b.2.2 λy hy=>?_;simp only[hy,cx];exact jK _ _
   haveI st:=b.1.aK;have s:kE g J.hd:=⟨f.1,fp f.2 (Int.ofNat_le.mpr tl),λj d h=>f.3 j d (aT st h)⟩;rcases b.4 with⟨rfl,a⟩|⟨hc,hf,a⟩
   .refine bL (di (O rfl) eG rfl) nf λY=>c_ (p1 _ _ ?_).1;have z':=Int.add_one_le_of_lt z;refine hR (m-1) _ _ (by have:=Int.ofNat_le.mpr V.6.2;lia) ⟨W,g,NU,by have:=Int.ofNat_le.mpr V.6.2;lia,oQ,M,v,o,a,?_,?_,λj d h=>?_⟩
    .exact B r (Int.le_add_one f.1)
    .exact B r (fp z' (Int.ofNat_le.mpr tl))
    .exact B r (Int.le_add_one (s.3 j d h))
   .haveI e3:g.hd-1=J.hd:=B r (Int.add_sub_cancel _ _);simp only[e3]at a;haveI ajZ:=a.6.jF;haveI nr:decide (res= -1)=false:=dp λe=>absurd (e▸hc.1) (by decide)
    refine bL (di (O rfl) eG (by refine nr▸?_;rfl)) (λY=>?_) nt
    exact kA M (jt ‹_› (bY M ‹_› rfl rfl) rfl ‹_› rfl) (O ‹_›) bb DE rfl λA M=>cI (O rfl) (p3 _ _ _ (q A W _ res NU M ⟨v.trans .h,⟨o.1,o.2,o.3,o.4⟩,rfl,v.aK,.inr ⟨hc,hf,J.hd,⟨⟨a.1.1,a.1.2,a.1.3,a.1.4,a.1.5,a.1.6⟩,⟨a.2.1,a.2.2⟩,⟨a.3.1⟩,⟨a.4.1,a.4.2,a.4.3⟩,a.5,⟨a.6.1,a.6.2,a.6.3,a.6.4,a.6.5,a.6.6⟩⟩,s.1,s.2,s.3⟩⟩))
  .exact cI eG (q A c J (-1) N M ⟨pg,ex,Int.le_antisymm f.2 (Int.not_lt.mp (gZ z)),pg.aK,.inl ⟨rfl,V⟩⟩)
theorem ahk(M:Mem I t Z A)(V:Vp t t.hd)(c:kE t t.hd)(q:∀a b J res,(∀aD,(∀p,aD≠.w p)->b aD=I aD)->Mem b J Z a->v7 t J res->Q (.int res) a):aA (k+5) .HE [me I] A Q:=
 ⟨_,rfl,GK M (O rfl) bb aX (ahl M V c q)⟩
noncomputable def Co(p:V×V):Int:=p.2.num
theorem aio(h:vH bW (xs.map key) (Zl xs) gw):∃ys:List Int,gw=Zl ys/\ys.Perm xs/\ys.Pairwise λx y=>if bW then V.rI (key y) (key x)else V.rI (key x) (key y):=by
 refine az h λps a=>br a λhp c hw=>?_;clear a;try clear h
 subst c;haveI e:(xs.map key).zip (Zl xs)=xs.map λx=>(key x,V.int x):=by
  show(xs.map key).zip (xs.map V.int)=_;exact List.zip_map'
 replace hp:=e▸hp;haveI un:∀x,Co (key x,V.int x)=x:=λx=>rfl;haveI b:(ps.map Co).map (λx=>(key x,V.int x))=ps:=by
  refine fk.trans<|(k8 λp h=>?_).trans (List.map_id ps);obtain⟨x,_,rfl⟩:=cW.mp (hp.mem_iff.mp h)
  rfl
 refine⟨ps.map Co,?_,?_,?_⟩
 .conv=>lhs;rw[<-b]
  refine fk.trans ?_;rfl
 .haveI:=hp.map Co;rw[fk]at this;exact this.trans (.of_eq ((k8 λx Y=>un x).trans (List.map_id xs)))
 .rw[<-b]at hw;exact List.pairwise_map.mp hw
theorem Fq:∀{xs:List Int},(∀x∈xs,∀Q:V->H->Prop,Q (key x) A->C f [.int x] A Q)->mX C X (.fn f) (Zl xs) (xs.map key) A
 |[],_=>trivial
 |x::xs,h=>⟨h x (bE ..) _ ⟨rfl,rfl⟩,Fq λy a=>h y (cP _ a)⟩
theorem Fp:∀{xs:List Int},(∀x∈xs,∀Q:V->H->Prop,Q (key x) A->C f [s,.int x] A Q)->mX C (some s) (.bm f) (Zl xs) (xs.map key) A
 |[],_=>trivial
 |x::xs,h=>⟨⟨s,rfl,h x (bE ..) _ ⟨rfl,rfl⟩⟩,Fp λy a=>h y (cP _ a)⟩
theorem yF{C:Cx}{X:Option V}{kk:k_}{bW:Bool}{xs:List Int}{key:Int->V}{A:H}{R:List V->Prop}(e:xs.length<64)(n:Nat)(f:n≠0)(g:∀x,V.kind (key x)=n)(h:mX C X kk (Zl xs) (xs.map key) A)
 (k:∀ys:List Int,ys.Perm xs->(ys.Pairwise λx y=>if bW then V.rI (key y) (key x)else V.rI (key x) (key y))->R (Zl ys)):yE C X kk bW (Zl xs) A R:=by
 refine⟨B cj e,_,h,⟨n,f,λv i=>?_⟩,λgw j=>?_⟩
 .refine az (cW.mp i) λx c=>aU c λY l=>?_;clear c;subst l;exact g x
 .refine az (aio j) λys d=>br d λm a b=>?_;clear d;subst m;exact k ys a b
def qr(a b:Int):Prop:=U a<U b\/(U a=U b/\a<b)
def FD(a b:Int):Prop:=U a<U b\/(U a=U b/\a<=b)
theorem Jk(h:Ev (aA (k+1)) l A it (.ref p))(e:A p=some (.list (Zl xs)))(c:xs.length<64)(q:∀a ys,A a=none->ys.Perm xs->ys.Pairwise FD->R (.ref a) (A.set a (.list (Zl ys)))):aB (aA (k+1)) (.sorted it (.fn .BK) false) l A R:=
 h _ (.inl ⟨Zl xs,e,B cj (aV (c9 c) (bt rfl)),yF c 2 (by decide) (λY=>rfl) (Fq λx Y Q q=>ag8 Q q) λys a b=>λp hp=>q p ys hp a b⟩)
theorem VX(h:Ev C l A a (.ref p))(e:A p=some (.list (Zl (ys++[w]))))(b:(ys++[w]).length<=bf):Ev C l A (.aQ a (.neg (.int 1))) (.int w):=by
 haveI c:(Zl (ys++[w])).length=ys.length+1:=by refine B cj<|B cx ?_;rfl
 refine uD h (ig a8 rfl) e (B cj b) ?_ (by refine aT j5 ?_;rw[lS (by rw[cj];exact dR _),cj,Nat.sub_self];rfl)
 refine B c ?_;show(if 0<=-1 then _ else if 0<=-1+((ys.length+1:Nat):Int)then some (-1+((ys.length+1:Nat):Int)).toNat else none)=_
 haveI: -1+((ys.length+1:Nat):Int)=ys.length:=by lia
 rw[bx (by decide),this,bA (fE _),Int.toNat_natCast]
def Sd(xs ys:List Int):Prop:=Q2
 (∀x,x∈ys↔x∈xs)
 (ys.Pairwise qr)
theorem afb(h:FD a b)(n:a≠b):qr a b:=h.imp id λh=>⟨h.1,Int.lt_iff_le_and_ne.mpr ⟨h.2,n⟩⟩
theorem afz(h:qr a b)(g:FD b c):qr a c:=h.elim (λx=>.inl (g.elim (Int.lt_trans x) λy=>y.1▸x)) λx=>g.elim (λy=>.inl (x.1▸y)) λy=>.inr ⟨x.1.trans y.1,Int.lt_of_lt_of_le x.2 y.2⟩
theorem afy(h:qr a a):False:=h.elim (Int.lt_irrefl _) λx=>Int.lt_irrefl _ x.2
def Pt(I:bT->Nat)(t:T)(Z:H)(p:Nat)(o:bN):Prop:=Z p=some o\/∃aD,I aD=p/\cont I t aD=some o
theorem cX.pt(M:cX (cont I t) I Z A)(h:Pt I t Z p o):A p=some o:=h.elim (M.3 _ _) λa=>az a λaD b=>aU b λe c=>aT e (M.1 _ _ c)
theorem Pt.set(h:Pt I t Z p o)(n:Z a=none):Pt I t (Z.set a x) p o:=h.imp (λe=>by
 haveI:p≠a:=λq=>by replace e:=q▸e;replace e:=n▸e;exact nn e
 exact B (H.a6 this) e) id
theorem ahn(h:Cn t c):Pt I t Z (I (.c c)) (.list (Zl (t.cl c))):=.inr ⟨_,rfl,js h⟩
def tU(C:Cx)(x:Nm)(b r:List St)(l:aH)(Q:Fl->aH->H->Prop)(v:V)(A:H):Prop:=oo .seq [v] A λws a=>oK (λv l A R=>fA false [x] v l λc=>Ss C b c A R) a ws l A (Nx C r Q)
theorem kR(h:aB C it l A λv A=>tU C x b r l Q v A):Ss C (.for false [x] .seq [it] b::r) l A Q:=h
theorem nF(a:List Int->aH->H->Prop)(e:A p=some (.list (Zl xs)))(j:xs.length<=bf)(h0:a xs l A)(hp:∀E l A,a E l A->A p=some (.list (Zl xs)))
 (step:∀v E l A,a (v::E) l A->∀P:Fl->aH->H->Prop,(∀l A,a E l A->P .next l A/\P .cont l A)->(∀l A,Ss C r l A Q->P .brk l A)->(∀v l A,Q (.ret v) l A->P (.ret v) l A)->Ss C b (l.set x (.int v)) A P)
 (bZ:∀l A,a [] l A->Ss C r l A Q):tU C x b r l Q (.ref p) A:=by
 refine⟨_,e,B cj j,rj (λws l A=>∃E,ws=Zl E/\a E l A) ?_ ?_ _ _ _ ⟨xs,rfl,h0⟩⟩
 .intro v ws l A f;refine az f λE g=>aU g λe c=>?_;clear g;try clear f
  cases E with
  |nil=>injection e
  |cons u us=>
   cases e;exact⟨hp _ _ _ c,λP k m n=>⟨_,rfl,step u us l A c P (λl A h=>k l A ⟨us,rfl,h⟩) m n⟩⟩
 .intro l A d;refine az d λE i=>aU i λe c=>?_;clear i;cases E with
  |nil=>exact⟨hp _ _ _ c,bZ l A c⟩
  |cons u us=>injection e
def Ry(I:bT->Nat)(t:T)(Z:H)(a b:Nat)(zs aY:List Int)(l:aH)(A:H)(ys done:List Int):Prop:=Q6
 (Mem I t ((Z.set a (.list (Zl ys))).set b (.list (Zl zs))) A)
 (l .ft=some (.ref a))
 (zs=done++aY)
 (∀x,x∈ys↔x∈done)
 (ys.Pairwise qr)
 (ys.length<=done.length)
theorem ug(M:Mem I t Z A)(e:Pt I t Z p (.list (Zl xs)))(J:xs.length<64)(q:∀L ys,Mem I t Z L->Sd xs ys->Q (.aE (Zl ys)) L):aA (k+2) .sH [.ref p] A Q:=by
 refine⟨_,rfl,vJ M (sS aX) λa ka na M=>kR (Jk (O rfl) (M.pt (e.set na)) J λb zs N hp hw=>?_)⟩;have nb:=M.dP N;have j:b≠a:=λq=>by replace nb:=q▸nb;replace nb:=H.bC▸nb;exact ns nb
 haveI M:=M.dy (o:=.list (Zl zs)) (.inl N);have m:zs.length<64:=B hp.length_eq J;refine nF (λaY l A=>∃ys done,Ry I t Z a b zs aY l A ys done) H.bC (aV (c9 m) (bt rfl)) ⟨[],[],M,rfl,rfl,λY=>Iff.rfl,.nil,dR _⟩ (λE l A X=>cF X λys done ak=>ak.1.3 _ _ H.bC) ?_ ?_
 .intro v E l A Z6 P R Y Y;refine cF Z6 λys done Am=>?_;obtain⟨M,C,i,hm,n,r⟩:=Am;haveI xV:=List.pairwise_append.mp (aT i hw);have ha:Pt I t ((Z.set a (.list (Zl ys))).set b (.list (Zl zs))) a (.list (Zl ys)):=.inl (B (H.a6 (cQ j)) H.bC);have s:ys.length<=64:=by
   rw[i,cx]at m;exact c9 (df (aV r (jK _ _)) m)
  have f:zs=(done++[v])++E:=by simp only[i,iX];rfl
  haveI fa:Ev (aA (k+1)) (l.set .lit (.int v)) A (.var .ft) (.ref a):=O ‹_›;have c8:(∀x∈ys,qr x v)->Ss (aA (k+1)) [.expr (.c8 (.var .ft) (.var .lit))] (l.set .lit (.int v)) A (Nx (aA (k+1)) [] P):=λhv=>by
   refine m4 M fa (O rfl) (B (H.a6 (cQ j)) H.bC) (B cj (df s (iV (bt rfl)))) λA M=>c_ (R _ _ ?_).1;refine⟨ys++[v],done++[v],M.fD λc o d=>?_,C,f,λx=>?_,?_,?_⟩
   .rcases cY (c=b)with z|z
    .have z:=z.symm;subst z;rw[H.bC]at d;exact B (H.a6 j)<|B H.bC<|d
    .rw[H.a6 z]at d;refine dx (c=a) (λf=>?_) (λf=>?_)
     .haveI f:=f.symm;subst f;rw[H.bC]at d⊢;exact B j5 d
     .rw[H.a6 f]at d;rw[H.a6 f,H.a6 z,H.a6 f];exact d
   .rw[dT,dT,hm]
   .exact List.pairwise_append.mpr ⟨n,List.pairwise_singleton _ _,λx u y hy=>cL.mp hy▸hv x u⟩
   .simp only[cx,cx];exact Nat.add_le_add_right r _
  have nil:Ev (aA (k+1)) (l.set .lit (.int v)) A (.jf false (.var .ft)) (.bool ((Zl ys).isEmpty !=false)):=uC fa (M.pt ha) (B cj (aV s (bt rfl)));rcases List.eq_nil_or_concat ys with rfl|⟨G,w,rfl⟩
  .exact bL (b:=true||false) (mU (kj nil nt)) (λY=>c8 λx u=>absurd u gh) nt
  .rw[List.concat_eq_append]at*;haveI W:w∈G++[w]:=iW _ (jo w);haveI dj:Ev (aA (k+1)) (l.set .lit (.int v)) A (.eq true (.aQ (.var .ft) (.neg (.int 1))) (.var .lit)) (.bool (decide (w=v) !=true)):=di (VX fa (M.pt ha) (aV s (bt rfl))) (O rfl) rfl;haveI ne:(Zl (G++[w])).isEmpty=false:=by
    refine aT j5 ?_;cases Zl G<;>rfl
   haveI g:=mU (kj (by rw[ne]at nil;exact nil) λY=>kj dj λY=>w8)
   refine dx (w=v) (λz=>?_) (λz=>?_)
   .refine bL g (λy=>by rw[cO z]at y;exact nf y) λY=>c_ (R _ _ ?_).1
    refine⟨_,done++[v],M,C,f,λx=>?_,n,aV r (B cx (Nat.le_succ _))⟩;exact(hm x).trans ⟨lO _,λh=>(dT.mp h).elim id λe=>(hm x).mp (by simp only[cL.mp e,<-z];exact W)⟩
   .refine bL g (λY=>c8 λx u=>?_) λy=>by rw[dp z]at y;exact nt y
    haveI lw:=xV.2.2 w ((hm w).mp W) v (bE ..);rcases dT.mp u with y|y
    .exact afz ((List.pairwise_append.mp n).2.2 x y w (jo w)) lw
    .exact B (cL.mp y) (afb lw z)
 .intro l A Z7;refine gn λkG=>cF Z7 λys done Ao=>?_;obtain⟨M,C,i,hm,n,r⟩:=Ao;refine kG ?_;haveI ha:Pt I t ((Z.set a (.list (Zl ys))).set b (.list (Zl zs))) a (.list (Zl ys)):=.inl (B (H.a6 (cQ j)) H.bC);haveI s:ys.length<=64:=by
   rw[i,cx]at m;exact c9 (df (aV r (jK _ _)) m)
  refine cI (JK (O ‹_›) (M.pt ha) (B cj (aV s (bt rfl)))) (q A ys (M.fD λc o d=>?_) ⟨λx=>(hm x).trans ?_,n⟩)
  .haveI c1:c≠a:=λz=>by replace d:=z▸d;replace d:=na▸d;exact nn d
   haveI c2:c≠b:=λz=>by replace d:=z▸d;replace d:=(H.a6 (A:=Z) (o:=.list (Zl [])) j).symm▸d;replace d:=nb▸d;exact nn d
   exact B (H.a6 c2)<|B (H.a6 c1)<|d
  .rw[<-hp.mem_iff,i,fQ]
theorem QQ:∀{ys:List Int},ys.Pairwise qr->(∀(k:Nat) a b,ys[k]? =some a->ys[k+1]? =some b->b≠-a)->ys.Pairwise λa b=>U a<U b
 |[],_,_=>.nil
 |[x],_,_=>List.pairwise_singleton _ _
 |x::y::r,h,g=>by
  obtain⟨d,f⟩:=List.pairwise_cons.mp h;have ih:=QQ f λk a b p q=>g (k+1) a b p q;haveI c:U x<U y:=by
   haveI n:=g 0 x y rfl rfl;refine Or.elim (d y (bE ..)) (λz=>?_) (λi=>aU i λz w=>?_)
   .exact z
   .refine Or.elim (kJ z) (λe=>?_) (λe=>?_)
    .rw[e]at w;exact absurd w (Int.lt_irrefl _)
    .exact absurd (by simp only[e,h_]) n
  refine List.pairwise_cons.mpr ⟨λz j=>?_,ih⟩;rcases dW.mp j with e|e
  .exact B e c
  .exact Int.lt_trans c ((List.pairwise_cons.mp ih).1 z e)
noncomputable def T.rC(t:T)(l:Int):Int:=if t.val l= -1 then t.ae (U l)else t.aK.length+1
theorem w6{k:Nat}(h:Ev C l A a (.aE (Zl xs)))(g:Ev C l A i (.int k))(e:xs[k]? =some x):Ev C l A (.aQ a i) (.int x):=by
 obtain⟨b,c⟩:=fR.mp e;exact DT h g (k:=k) (B cj (mA (fE _) (g9.mpr b))) (by refine B (A1 b) ?_;exact B c rfl)
theorem DX(h:Ev C l A a (.aE (Zl xs)))(e:(xs.length:Int)=x):Ev C l A (.b1 .len a) (.int x):=by
 haveI:=VZ h;rw[cj]at this;exact aT e this
set_option tactic.hygienic true in
theorem cX.jQ(M:cX (cont I t) I Z A)(h:Z a=some o):Mem I t (Z.jQ a) (A.jQ a):=by
 have ne:∀{b y},Z.jQ a b=some y->b≠a/\Z b=some y:=λ{b y} e=>by
  unfold H.jQ at e;split at e
  .exact nn e
  .rename_i q;exact⟨q,e⟩
 exact⟨λaD x e=>B (zL (M.4 _ _ _ _ h e)) (M.1 _ _ e),M.2,λb y e=>B (zL (ne e).1) (M.3 _ _ (ne e).2),λb y aD x e f=>M.4 _ _ _ _ (ne e).2 f⟩
theorem Ov(M:Mem I t Z A)(h:R A):tm (some (me I)) (.bm f) A R:=⟨d_ _ _ _ (aS rfl ((M.ob .aO bb).1) ((M.ob .aO bb).2)),h⟩
theorem RZ(hw:ys.Pairwise qr)(s:ys.length<64)(m:(∃x∈ys,-x∈ys)->Q (.bool true) A)(t:(ys.Pairwise λa b=>U a<U b)->Q (.bool false) A):aA (k+1) .Fe [.aE (Zl ys)] A Q:=by
 refine⟨_,rfl,QJ (λi l u=>1<=i/\u=A/\l .eJ=some (.aE (Zl ys))/\∀(k:Nat) a b,k+1<i->ys[k]? =some a->ys[k+1]? =some b->b≠-a) a8 (DX (O rfl) rfl) (by unfold fits;decide) (mW (aV (c9 s) (by decide))) (cg (by decide) rfl rfl λk a b h=>by lia) ?_ ?_⟩
 .intro i l A hi n P v Y C;refine eI n λE g o h=>?_;try clear n
  haveI g:=g.symm;subst g;obtain⟨j,rfl⟩:∃j:Nat,i=(j+1):=⟨(i-1).toNat,by omega⟩
  have p:=g9.mp hi;haveI f:=dZ p;haveI ha:=dZ (Nat.lt_of_succ_lt p);generalize ys[j+1]=b at f;generalize ys[j]=a at ha;haveI e:Ev (aA k) (l.set .k (.int (j+1:Nat))) A (.eq false (.aQ (.var .eJ) (.var .k)) (.neg (.aQ (.var .eJ) (.cJ .sub (.var .k) (.int 1))))) (.bool (decide (b= -a) !=false)):=
   di (w6 (O ‹_›) (O rfl) f) (ig (w6 (O ‹_›) (dz (O rfl) a8 (Int.add_sub_cancel j 1) trivial) ha) rfl) rfl
  refine bL e (λz=>?_) λz=>c_ (v _ _ ?_).1
  .haveI z:b= -a:=jX λq=>by replace z:=(dp q)▸z;exact nf z
   exact cI gU (C _ _ _ (m ⟨a,jq ha,aT z (jq f)⟩))
  .refine(cg (by lia) rfl o λk x y G d c=>?_)
   refine Or.elim (Int.lt_or_eq_of_le (Int.le_of_lt_add_one G)) (λw=>?_) (λw=>?_)
   .exact h k x y w d c
   .haveI:k=j:=by lia
    haveI this:=this.symm;subst this;replace d:=ha▸d;replace c:=f▸c;injection d with d;subst d;injection c with c;subst c
    exactλq=>by replace z:=(cO q)▸z;exact nt z
 .intro i l A hi r;refine gn λI=>eI r λE J o h=>?_;try clear r
  clear m;subst J;exact I<|cI gU (t (QQ hw λk a b d c=>h k a b (by have:=(fR.mp c).1;omega) d c))
theorem adI(M:Mem I t Z A)(b:Bd t)(h:a9 t l)(Q:V->H->Prop)(q:Q (.int (t.rC l)) A):aA (k+2) .HM [me I,.int l] A Q:=by
 haveI a:=b.1;haveI c:=h.fu;haveI e:Ev (aA (k+1)) ((aH.set (λY=>none) .X (me I)).set .lit (.int l)) A (.eq true (.aZ (.var .X) .aO .ic [.var .lit]) (.dO "FALSE" (-1))) (.bool (decide (t.val l= -1) !=true)):=di (gA M (O rfl) bb (aI (O rfl) aX) (qL M a h)) eG rfl;refine⟨_,rfl,bL e (λz=>?_) λz=>c7 ?_⟩
 .have z:t.val l≠-1:=λq=>by replace z:=(cO q)▸z;exact nf z
  rw[T.rC,bx z]at q;exact cI (dz (gA M (O rfl) bb aX (wR M b)) a8 rfl trivial) q
 .have z:t.val l= -1:=jX λq=>by replace z:=(dp q)▸z;exact nt z
  rw[T.rC,bA z]at q;exact cI (eF M (bY M rfl rfl rfl) (fO (O rfl) rfl) rfl a rfl c) q
theorem Iw(M:Mem I t Z A)(b:Bd t)(e:Pt I t Z p (.list (Zl xs)))(f:xs.length<64)(h:∀x∈xs,a9 t x)(q:∀g a ys,Z a=none->Mem I t (Z.set a (.list (Zl ys))) g->ys.Perm xs->(ys.Pairwise λx y=>t.rC y<=t.rC x)->Q (.ref a) g):aA (k+3) .CZ [me I,.ref p] A Q:=by
 refine⟨_,rfl,Jk (O rfl) (M.pt e) f λa zs ha hp hw=>?_⟩;haveI na:=M.dP ha;have M:=M.dy (o:=.list (Zl zs)) (.inl ha);haveI i:=M.jQ H.bC;refine cR _ (aS rfl ⟨_,rfl,_,M.3 _ _ H.bC⟩ (cE _ _ (cg rfl (M.3 _ _ H.bC) rfl (Ov M ?_))));exact yF (B hp.length_eq f) 1 (by decide) (λY=>rfl) (Fp λx j Q q=>adI i b (h x (hp.mem_iff.mp j)) Q q) λys l m=>cI (O rfl) (q _ a ys na ((M.dy (.inr ⟨_,H.bC⟩)).fD λc o d=>by
  rcases cY (c=a)with w|w
  .haveI w:=w.symm;subst w;rw[H.bC]at d⊢;exact d
  .rw[H.a6 w]at d;rw[H.a6 w,H.a6 w];exact d) (l.trans hp) m)
theorem Iy(M:Mem I t Z A)(b:Bd t)(e:Pt I t Z p (.list (Zl xs)))(c:xs.length<64)(f:∀x∈xs,In t x)(q:∀d a ys,Z a=none->Mem I t (Z.set a (.list (Zl ys))) d->ys.Perm xs->(ys.Pairwise λx y=>t.S y<=t.S x)->Q (.ref a) d):aA (k+2) .C1 [me I,.ref p] A Q:=by
 refine⟨_,rfl,⟨_,rfl,.inl (cR (Zl xs) (aS (M.pt e) (B cj (aV (c9 c) (bt rfl))) (Ov M (yF c 1 (by decide) (λY=>rfl) (Fp λx g Q q=>aix M b.1 (f x g) Q q) λys h i=>λa ha=>?_))))⟩⟩
 exact q _ a ys (M.dP ha) (M.dy (.inl ha)) h i
theorem ajc(M:Mem I t Z A)(b:Bd t)(y:dY t)(d:Cn t c)(q:∀dM,(∀x∈t.cl c,t.ae (U x)<=dM)->(dM=0\/∃x∈t.cl c,t.ae (U x)=dM)->0<=dM->Q (.int dM) A):aA (k+1) .HS [me I,.int c] A Q:=by
 refine⟨_,rfl,dG a8 (kR (mc M b (bY M rfl rfl rfl) (O rfl) d _ ?_))⟩;refine nF (λE l r=>r=A/\l .X=some (me I)/\∃dM done,l .dM=some (.int dM)/\t.cl c=done++E/\(∀x∈done,t.ae (U x)<=dM)/\(dM=0\/∃x∈done,t.ae (U x)=dM)/\0<=dM) (M.1 _ _ (js d)) (b.nX d.1 d.2) (aS rfl rfl (cE 0 ([]) (e_ rfl rfl (λx f=>absurd f gh) (.inl rfl) (g8 _)))) (λE l r h=>h.1▸M.1 _ _ (js d)) ?_ ?_
 .intro v E l A s P C Y Y;refine gn λg=>br s λi u j=>cF j λdM done m=>eY m λG e n o h0=>?_;try clear s
  have i:=i.symm;subst i;refine g ?_;haveI J:=b.1;haveI lv:=(y.2 c v d (B e<|iW _ (bE ..))).1.fu;refine dG (JC (x:=max dM (t.ae (U v))) (O ‹_›) (eF M (bY M ‹_› rfl rfl) (fO (O rfl) rfl) rfl J rfl lv) rfl) (d9 (C _ _ ?_).1);refine(aS rfl u (cE _ (done++[v]) (e_ rfl (by simp only[e,iX];rfl) (λx f=>?_) ?_ ?_)))
  .rcases dT.mp f with z|z
   .exact fp (n x z) (Int.le_max_left ..)
   .exact B ((cL.mp z))<|Int.le_max_right ..
  .refine Or.elim (Int.le_total (t.ae (U v)) dM) (λz=>?_) (λz=>?_)
   .exact B (Int.max_eq_left z) (o.imp id λL=>az L λx N=>aU N λa b=>⟨x,lO _ a,b⟩)
   .exact B (Int.max_eq_right z) (.inr ⟨v,iW _ (jo v),rfl⟩)
  .exact fp h0 (Int.le_max_left ..)
 .intro l A w;refine gn λg=>br w λp u R=>cF R λdM done W=>eY W λG e n o h0=>?_;try clear w
  haveI p:=p.symm;subst p;refine g ?_;rw[fQ]at e;exact cI (O ‹_›) (q dM (B e n) (B e o) h0)
def Td(c:List Int):Prop:=Q2
 (∀x∈c,x≠0)
 (c.Pairwise λa b=>U a<U b)
theorem Td.yL:∀{a b:List Int},Td a->Td b->(∀x,x∈a↔x∈b)->a=b
 |[],[],_,_,_=>rfl
 |[],y::b,_,_,h=>nomatch (h y).mpr (bE ..)
 |x::a,[],_,_,h=>nomatch (h x).mp (bE ..)
 |x::a,y::b,ha,d,h=>by
  obtain⟨a1,a2⟩:=List.pairwise_cons.mp ha.2;obtain⟨b1,b2⟩:=List.pairwise_cons.mp d.2;haveI e:x=y:=by
   refine Or.elim (dW.mp ((h x).mp (bE ..))) (λp=>?_) (λp=>?_)
   .exact p
   .rcases dW.mp ((h y).mpr (bE ..))with q|q
    .exact q.symm
    .exact absurd (Int.lt_trans (b1 x p) (a1 y q)) (Int.lt_irrefl _)
  subst e;refine aP _ (Td.yL ⟨λz c=>ha.1 z (cP _ c),a2⟩ ⟨λz c=>d.1 z (cP _ c),b2⟩ λz=>?_);refine⟨λp=>?_,λp=>?_⟩
  .exact(dW.mp ((h z).mp (cP _ p))).resolve_left λq=>absurd (a1 z p) (q▸Int.lt_irrefl _)
  .exact(dW.mp ((h z).mpr (cP _ p))).resolve_left λq=>absurd (b1 z p) (q▸Int.lt_irrefl _)
theorem Td.neg(h:Td c)(b:x∈c): -x∉c:=λf=>by
 haveI ne:x≠-x:=λq=>h.1 x b (by lia)
 haveI:=h.2.imp λq=>Int.ne_of_lt q;obtain⟨i,hi⟩:=List.mem_iff_getElem?.mp b;obtain⟨j,g⟩:=List.mem_iff_getElem?.mp f;obtain⟨d,i2⟩:=fR.mp hi;obtain⟨e,a⟩:=fR.mp g;have w:=List.pairwise_iff_getElem.mp this;rcases Nat.lt_trichotomy i j with q|q|q
 .exact w i j d e q (by refine B i2 ?_;refine B a ?_;exact B dJ rfl)
 .subst q;exact ne (i2.symm.trans a)
 .exact w j i e d q (by simp only[i2,a,dJ])
theorem VS{C:Cx}{l:aH}{A:H}{ne:Bool}{a b:a7}{i:Int}{p:Nat}{aF:List (Int×V)}{c:Bool}(ha:Ev C l A a (.int i))(d:Ev C l A b (.ref p))(e:A p=some (.fN aF))(h:((n7 aF i).isSome !=ne)=c):Ev C l A (.jh ne a b) (.bool c):=aT h (λY q=>ha _ (d _ (.inr (cE aF i (aS e rfl q)))))
theorem VB(h:Ev C l A it (.ref p))(e:A p=some (.fN aF))(a:aF.length<=1000)(k:yE C (l .X) (.fn f) bW (Zl (aF.map Prod.fst)) A λgw=>jg A gw R):aB C (.sorted it (.fn f) bW) l A R:=
 h _ (.inr ⟨aF,e,a,((fk ..).symm)▸k⟩)
theorem aiL(h:aB C a l A λv A=>vN A .tuple v λv A=>Q (.ret v) l A):Ss C (.ret (.b1 .tuple a)::r) l A Q:=h
theorem aiO{C:Cx}{l:aH}{A:H}{Q:Fl->aH->H->Prop}{r:List St}{o i e:a7}{p:Nat}{j:Int}{v:V}{aF:List (Int×V)}(he:Ev C l A e v)(a:Ev C l A o (.ref p))(hi:Ev C l A i (.int j))(h:A p=some (.fN aF))(b:aF.length<=900)(k:Ss C r l (A.set p (.fN (nA aF j v))) Q):Ss C (.qE o i e::r) l A Q:=
 he _ (a _ (hi _ ⟨p,rfl,.inl (cE j aF (cg rfl h b k))⟩))
theorem ag9(Q:V->H->Prop)(q:Q (.aE [.int (U l),.bool (decide (0<l))]) A):aA (k+1) .PD [.int l] A Q:=
 ⟨_,rfl,cI (ju (aI (fO (O rfl) rfl) (aI (eP (O rfl) a8 rfl) aX))) q⟩
theorem aeB(h:Td c)(r:c.length<64)(Q:V->H->Prop)(q:Q (.bool true) A):aA (k+1) .N8 [.aE (Zl c)] A Q:=by
 refine⟨_,rfl,rZ (λi l s=>0<=i/\s=A/\l .eJ=some (.aE (Zl c))) (DX (O rfl) rfl) (mW (aV (c9 r) (by decide))) (aS (g8 _) rfl rfl) ?_ ?_⟩
 .intro i l A hi f P t Y Y;refine br f λg d m=>?_;try clear f
  haveI d:=d.symm;subst d;obtain⟨j,rfl⟩:∃j:Nat,i=j:=⟨i.toNat,(Int.toNat_of_nonneg g).symm⟩;have a:=g9.mp hi;haveI n:=dZ a;have u:=h.1 c[j] (List.getElem_mem a);refine bL (di (w6 (O ‹_›) (O rfl) n) a8 (by refine B (dp u) ?_;rfl)) nf λY=>c7 ?_
  have o:=c_ (C:=aA k) (t (l.set .jk (.int j)) A (aS (by lia) rfl m)).1
  cases j with
  |zero=>exact bL (b:=false&&true) (gT (dC (eP (O rfl) a8 rfl) nf)) nf λY=>o
  |succ j=>
   haveI v:=dZ (Nat.lt_of_succ_lt a);haveI lt:=List.pairwise_iff_getElem.mp h.2 j (j+1) (Nat.lt_of_succ_lt a) a (k5 j);refine bL (b:=true&&(false&&true)) (gT (dC (eP (O rfl) a8 (cO (Int.natCast_pos.mpr (Nat.zero_lt_succ j)))) λY=>dC (eP (fO (w6 (O ‹_›) (dz (O rfl) a8 (Int.add_sub_cancel j 1) trivial) v) rfl) (fO (w6 (O ‹_›) (O rfl) n) rfl) (dp (Int.not_le.mpr lt))) nf)) nf λY=>o
 .intro i l A hi p;refine br p λg e m=>?_;try clear p
  subst e;exact cI gU q
def RN(I:bT->Nat)(t:T)(Z:H)(a:Nat)(xs aY:List Int)(l:aH)(A:H)(aF:List (Int×V))(done:List Int):Prop:=Q6
 (Mem I t (Z.set a (.fN aF)) A)
 (l .de=some (.ref a))
 (xs=done++aY)
 (∀x,x∈aF.map Prod.fst↔x∈done)
 ((aF.map Prod.fst).Nodup)
 (aF.length<=done.length)
theorem Va{aF:List (Int×V)}{x:Int}:(n7 aF x).isSome=decide (x∈aF.map Prod.fst):=by
 induction aF with
 |nil=>rfl
 |cons p aF ih=>
  obtain⟨y,v⟩:=p;show(if y=x then some v else n7 aF x).isSome=_
  rcases cY (y=x)with q|q
  .rw[bA q,cO (aT q (bE ..))];rfl
  .rw[bx q,ih];exact decide_eq_decide.mpr ⟨cP _,λh=>(dW.mp h).resolve_left λe=>q e.symm⟩
set_option tactic.hygienic true in
theorem ai'(M:Mem I t Z A)(e:Pt I t Z p (.list (Zl xs)))(s:xs.length<64)(f:Td c)(hm:∀x,x∈c↔x∈xs)(q:∀J,Mem I t Z J->Q (.aE (Zl c)) J):aA (k+2) .G1 [.ref p] A Q:=by
 refine⟨_,rfl,λa ha=>?_⟩;have na:=M.dP ha;haveI M:=M.dy (o:=.fN []) (.inl ha);have pa:∀aF,Pt I t (Z.set a (.fN aF)) p (.list (Zl xs)):=λaF=>e.set na;refine kR ((O rfl) _ ?_);refine nF (λaY l A=>∃aF done,RN I t Z a xs aY l A aF done) (M.pt (pa _)) (aV (c9 s) (bt rfl)) ⟨[],[],M,rfl,rfl,λY=>Iff.rfl,.nil,dR _⟩ (λE l A XN=>cF XN λaF done ak=>ak.1.pt (pa _)) ?_ ?_
 .intro v E l A Ay P p1 Y Y;refine cF Ay λaF done L=>?_;obtain⟨M,N,j,i,hd,m⟩:=L;haveI vx:v∈xs:=B j (iW _ (bE ..));have nv:=λh=>f.neg ((hm v).mpr vx) ((hm (-v)).mpr (B j (lO _ ((i _).mp h))));haveI u:xs=(done++[v])++E:=by simp only[j,iX];rfl
  have C:aF.length<=900:=aV m (by rw[j,cx]at s;lia)
  haveI ci:Ev (aA (k+1)) (l.set .gq (.int v)) A (.jh false (.neg (.var .gq)) (.var .de)) (.bool false):=VS (ig (O rfl) rfl) (O ‹_›) (M.3 _ _ H.bC) (by refine B Va<|B (dp nv) ?_;rfl)
  refine bL ci nf λY=>c7<|aiO gU (O ‹_›) (O rfl) (M.3 _ _ H.bC) C ?_;haveI M:=M.dy (o:=.fN (nA aF v (.bool true))) (.inr ⟨_,H.bC⟩);refine d9 (p1 _ _ ?_).1;have M:=M.fD (bj:=Z.set a (.fN (nA aF v (.bool true)))) λc o f=>by
   rcases cY (c=a)with w|w
   .haveI w:=w.symm;subst w;rw[H.bC]at f⊢;exact f
   .rw[H.a6 w]at f;rw[H.a6 w,H.a6 w];exact f
  generalize A.set a (bN.fN (nA aF v (V.bool true)))=J at M⊢;rcases cY (v∈aF.map Prod.fst)with w|w
  .have r:(nA aF v (.bool true)).map Prod.fst=aF.map Prod.fst:=by
    unfold nA;rw[bA (mG.mpr (by obtain⟨p,hp,e⟩:=cW.mp w;exact⟨p,hp,cO e⟩)),fk]
    refine k8 λp Y=>?_;show(if p.1=v then(v,V.bool true)else p).1=p.1
    split
    .rename_i h;exact h.symm
    .rfl
   refine⟨_,done++[v],M,N,u,λx=>by rw[r,i,dT,cL];exact⟨.inl,λh=>h.elim id λe=>B e ((i v).mp w)⟩,B r hd,?_⟩
   haveI:=aP List.length r;simp only[b9,b9]at this;simp only[this,cx];exact Nat.le_succ_of_le m
  .have r:nA aF v (.bool true)=aF++[(v,.bool true)]:=by
    unfold nA;rw[bx];intro h;obtain⟨p,hp,e⟩:=mG.mp h;exact w (cW.mpr ⟨p,hp,dQ e⟩)
   rw[r]at M;refine⟨aF++[(v,.bool true)],done++[v],M,N,u,λx=>by rw[iJ,dT,dT];exact or_congr (i x) Iff.rfl,B iJ (jB.mpr ⟨hd,by simp,λa ha b G q=>w ((q.trans (cL.mp G):a=v)▸ha)⟩),?_⟩
   simp only[cx,cx];exact Nat.add_le_add_right m _
 .intro l A R;refine gn λkG=>cF R λaF done W=>?_;obtain⟨M,N,j,i,hd,m⟩:=W;rw[fQ]at j;subst j;refine kG ?_;have C:(aF.map Prod.fst).length<64:=by rw[b9];exact df m s
  refine aiL (VB (O ‹_›) (M.3 _ _ H.bC) (aV m (aV (c9 s) (by decide))) ?_)
  refine yF C 3 (by decide) (λY=>rfl) (Fq λx Y Q q=>ag9 Q q) λys n h2=>λb G=>?_
  haveI nb:=M.dP G;haveI M:=M.dy (o:=.list (Zl ys)) (.inl G);haveI ey:=Td.yL ⟨λx X=>f.1 x ((hm x).mpr ((i x).mp (n.mem_iff.mp X))),?_⟩ f λx=>n.mem_iff.trans ((i x).trans (hm x).symm)
  .refine⟨Zl ys,M.3 _ _ H.bC,by refine B cj ?_;refine B n.length_eq ?_;exact aV (c9 C) (bt rfl),?_⟩
   rw[ey]at M⊢;refine q _ (M.fD λy o d=>?_);have y1:y≠a:=λz=>by replace d:=z▸d;replace d:=na▸d;exact nn d
   haveI y2:y≠b:=λz=>by replace d:=z▸d;replace d:=(H.a6 (A:=Z) (o:=.fN aF) λu=>y1 (z.trans u)).symm▸d;replace d:=nb▸d;exact nn d
   exact B (H.a6 y2)<|B (H.a6 y1)<|d
  .haveI nd:=n.nodup_iff.mpr hd;refine(List.Pairwise.and h2 nd).imp_of_mem λ{x y} X d XO=>aU XO λg ne=>?_;refine Or.elim g (λg=>?_) (λg=>?_)
   .exact g
   .refine Or.elim (kJ g.1) (λz=>?_) (λz=>?_)
    .exact absurd z ne
    .haveI ael:=(hm y).mpr ((i y).mp (n.mem_iff.mp d));haveI lF:=(hm x).mpr ((i x).mp (n.mem_iff.mp X));exact absurd (aT z lF) (f.neg ael)
theorem A6:∀{xs:List Int},V.om (.int i) (Zl xs)=some (decide (i∈xs))
 |[]=>rfl
 |x::xs=>by
  show(match V.eqv (.int x) (.int i),V.om (.int i) (Zl xs)with|some t,some u=>some (t||u)|_,_=>none)=_
  refine B A6 ?_;show some (decide (x=i)||decide (i∈xs))=_;rw[<-Bool.decide_or];exact aP some (decide_eq_decide.mpr ⟨λh=>h.elim (λe=>aT e (bE ..)) (cP _),λh=>(dW.mp h).imp Eq.symm id⟩)
theorem DV(ha:Ev C l A a x)(f:Ev C l A b (.aE E))(e:V.om x E=some d)(h:(d !=ne)=c):Ev C l A (.jh ne a b) (.bool c):=aT h (λY q=>ha _ (f _ ⟨d,e,q⟩))
theorem w4(ha:Ev C l A a (.int x))(d:Ev C l A b (.aE (Zl xs)))(h:decide (x∈xs)=c):Ev C l A (.jh false a b) (.bool c):=DV ha d A6 (by refine B h ?_;clear h;cases c<;>rfl)
theorem JM(h:Ev C l A it (.aE ws))(b:ws.length<=bf)(c:∀v∈ws,p6 C (l.set x v) A d (g v))(hf:∀v∈ws,g v=true->Ev C (l.set x v) A cN (f v)):fX C l A (.comp cN false [x] .seq [it] d) ((ws.filter g).map f):=
 λQ q=>h _ ⟨b,sJ trivial ws [] c hf (by simp only[k7,Nat.zero_add];exact b) λa ha=>q a ha⟩
noncomputable def qk(g:Int->Bool):V->Bool|.int x=>g x|_=>false
theorem xd:((Zl xs).filter (qk g)).map id=Zl (xs.filter g):=by
 rw[List.map_id];show(xs.map V.int).filter _=_;refine B List.filter_map ?_;rfl
theorem IP(hs:d A):∀(ws:List (V×V)) (a:List V),(∀p∈ws,Ev C ((l.set x p.1).set y p.2) A cN (f p))->a.length+ws.length<=bf->Q (a++ws.map f) A->
 oD (λv A R=>fA true [x,y] v l λb=>mK C [] b A R) (λv A R=>fA true [x,y] v l λb=>aB C cN b A R) d (ws.map λp=>.aE [p.1,p.2]) a A Q
 |[],a,_,c,q=>aS hs c (fQ a▸q)
 |p::ws,a,he,c,q=>by
  refine fF hs (cE _ _ (cg rfl rfl (λY=>cE _ _ (aS rfl rfl (he p (bE ..) _ (IP hs ws _ (λu hu=>he u (cP _ hu)) ?_ ?_)))) λh=>nt h))
  .rw[cx,Nat.add_assoc,Nat.add_comm [f p].length];exact c
  .rw[iX];exact q
theorem JO{ws:List (V×V)}(h:Ev C l A it (.ref p))(e:A p=some (.list (ws.map λp=>.aE [p.1,p.2])))(b:ws.length<=bf)(hf:∀p∈ws,Ev C ((l.set x p.1).set y p.2) A cN (f p)):fX C l A (.comp cN true [x,y] .seq [it] []) (ws.map f):=
 λQ q=>h _ (cR _ (cg e (by rw[b9];exact b) (by rw[b9];exact b) (IP e ws [] hf (by simp only[k7,Nat.zero_add];exact b) λa ha=>q a ha)))
theorem ahy{p:Int}(M:Mem I t Z A)(u:p∈cC)(h2: -p∉cC)(C: -p∈gu)(f:Td c)(hm:∀x,x∈c↔(x∈cC/\x≠p)\/(x∈gu/\x≠-p))(E:cC.length<30)(G:gu.length<30)(q:∀J,Mem I t Z J->Q (.aE (Zl c)) J):aA (k+3) .PZ [.aE (Zl cC),.aE (Zl gu),.int (U p)] A Q:=by
 have b1:(Zl cC).length<=bf:=by rw[cj];exact aV (c9 E) (bt rfl)
 have b2:(Zl gu).length<=bf:=by rw[cj];exact aV (c9 G) (bt rfl)
 haveI go:∀l (h i) A,Mem I t Z A->l .cC=some (.aE (Zl cC))->l .gu=some (.aE (Zl gu))->(∀l A,l .iw=some (.int (U p))->Ev (aA (k+2)) l A h (.int p))->(∀l A,l .iw=some (.int (U p))->Ev (aA (k+2)) l A i (.int (-p)))->l .iw=some (.int (U p))->
  Ss (aA (k+2)) [.bP .aY (.comp (.var .gq) false [.gq] .seq [.var .cC] [.eq true (.var .gq) h]),.expr (.ext (.var .aY) (.comp (.var .gq) false [.gq] .seq [.var .gu] [.eq true (.var .gq) i]))] l A (Nx (aA (k+2)) [.ret (.call .G1 [.var .aY])] λfl Y A=>Q fl.val A):=by
  intro l h i A M a1 a2 j m L;have N:∀ys e z (l:aH) A,(∀l A,l .iw=some (.int (U p))->Ev (aA (k+2)) l A e (.int z))->l .iw=some (.int (U p))->(∀v∈Zl ys,p6 (aA (k+2)) (l.set .gq v) A [.eq true (.var .gq) e] (qk (λx=>decide (x≠z)) v))/\∀v∈Zl ys,qk (λx=>decide (x≠z)) v=true->Ev (aA (k+2)) (l.set .gq v) A (.var .gq) (id v):=λys e z l A he a=>by
   refine⟨λv P=>?_,λv P Y=>O rfl⟩;refine az (cW.mp P) λx R=>aU R λY Eu=>?_;clear R;subst Eu;haveI:=dC (di (ne:=true) (O rfl:Ev (aA (k+2)) (l.set .gq (.int x)) A (.var .gq) (.int x)) (he _ A a) rfl) λY=>hO;haveI e0:((decide (x=z) !=true)&&true)=decide (x≠z):=by
    refine dx (x=z) (λw=>?_) (λw=>?_)
    .rw[cO w,dp (not_not_intro w)];rfl
    .rw[dp w,cO w];rfl
   rw[e0]at this;exact this
  haveI W:=N cC h p l A j L;haveI X:=JM (O ‹_›) b1 W.1 W.2;simp only[xd]at X;refine vJ M X λa A na M=>?_;haveI c2:=N gu i (-p) (l.set .aY (.ref a)) A m L;haveI n:=JM (O ‹_›:Ev (aA (k+2)) (l.set .aY (.ref a)) A (.var .gu) (.aE (Zl gu))) b2 c2.1 c2.2;replace n:=xd▸n;haveI r:=lP (λx=>decide (x≠p)) cC;haveI s:=lP (λx=>decide (x≠-p)) gu;have lt:(cC.filter (λx=>decide (x≠p))++gu.filter λx=>decide (x≠-p)).length<64:=B cx (df (Nat.add_le_add r s) (Nat.lt_trans (Nat.add_lt_add E G) (by decide)))
  refine QH M (O rfl) n H.bC (by refine B cj ?_;refine B cj ?_;exact aT cx<|aV (c9 lt) (bt rfl)) λA M=>c7 ?_
  haveI M:=M.fD (bj:=Z.set a (.list (Zl (cC.filter (λx=>decide (x≠p))++gu.filter λx=>decide (x≠-p))))) λc o f=>by
   rcases cY (c=a)with w|w
   .haveI w:=w.symm;subst w;rw[H.bC]at f⊢;exact aT f (aP (λy=>some (bN.list y)) iJ.symm)
   .rw[H.a6 w]at f;rw[H.a6 w,H.a6 w];exact f
  refine(O rfl:Ev (aA (k+2)) (l.set .aY (.ref a)) A (.var .aY) (.ref a)) _ (ai' M (.inl H.bC) lt f (λx=>?_) λA M=>q A (M.fD λy o g=>?_))
  .rw[hm,dT,dU,dU,k6,k6]
  .haveI:y≠a:=λz=>by replace g:=z▸g;replace g:=na▸g;exact nn g
   exact B (H.a6 this) g
 rcases cY (0<p)with hp|hp
 .have d:=ub hp;refine⟨_,rfl,bL (gT (dC (w4 (by refine d▸?_;exact O rfl) (O rfl) (cO u)) λY=>dC (w4 (B d<|ig (O rfl) rfl) (O rfl) (cO C)) λY=>hO)) (λY=>go _ _ _ A M rfl rfl (λl A a=>by rw[d]at a;exact O ‹_›) (λl A a=>by rw[d]at a;exact ig (O ‹_›) rfl) rfl) nt⟩
 .haveI d:=zr hp;haveI eb:p= -U p:=by simp only[d,h_]
  haveI v1:∀l A,l .iw=some (.int (U p))->Ev (aA (k+2)) l A (.neg (.var .iw)) (.int p):=λl A a=>ig (O a) eb.symm;haveI v2:∀l A,l .iw=some (.int (U p))->Ev (aA (k+2)) l A (.var .iw) (.int (-p)):=λl A a=>aT d (O a);refine⟨_,rfl,bL (b:=false&&true) (gT (dC (w4 (v2 _ A rfl) (O rfl) (dp h2)) nf)) nf λY=>?_⟩;exact bL (gT (dC (w4 (v1 _ A rfl) (O rfl) (cO u)) λY=>dC (w4 (v2 _ A rfl) (O rfl) (cO C)) λY=>hO)) (λY=>go _ _ _ A M rfl rfl v1 v2 rfl) nt
noncomputable def T.cs(t:T)(s:Int):List Int:=match t.ps[s.toNat]? with|some x=>x.2.1|none=>[]
def Sn(t:T)(s:Int):Prop:=0<=s/\s<t.ps.length
theorem IV(h:Sn t s):∃x,t.ps[s.toNat]? =some x/\t.cs s=x.2.1:=by
 have a:s.toNat<t.ps.length:=by haveI:=h.1;haveI:=h.2;lia
 haveI e:=dZ a;exact⟨_,e,by unfold T.cs;exact B e rfl⟩
theorem UN(h:t.pf=true):eZ I t (t.qB x) .ps (.list (x.map QN)):=⟨yu h,λaD h=>by cases aD<;>first|rfl|exact absurd rfl h⟩
set_option tactic.hygienic true in
theorem UM(h:t.pf=true):eZ I t (t.vu x) (.at .cK) (.cM .cK (gD (kv I t .cK) .sO (.int x))):=⟨yu h,λaD h=>by cases aD<;>first|rfl|(rename_i c;cases c<;>first|rfl|exact absurd rfl h)⟩
def zd(t:T)(c:List Int)(v s:Int)(a:List Int):Prop:=Q4
 (Sn t s)
 (Td a)
 (a.length<30)
 (∃p,U p=v/\p∈c/\-p∉c/\-p∈t.cs s/\∀x,x∈a↔(x∈c/\x≠p)\/(x∈t.cs s/\x≠-p))
inductive Rn(t:T):List Int->List (Int×Int)->List Int->Prop
 |nil (c:List Int):Rn t c [] c
 |cons (c c1 c2:List Int) (v s:Int) (ps:List (Int×Int)):zd t c v s c1->Rn t c1 ps c2->Rn t c ((v,s)::ps) c2
theorem Rn.of(h:∀s,Sn t s->Sn J s/\J.cs s=t.cs s)(r:Rn t c ps b):Rn J c ps b:=by
 induction r with
 |nil c=>exact .nil _
 |cons c d e v s ps a _ ih=>exact .cons _ _ _ _ _ _ ⟨(h s a.1).1,a.2,a.3,B (((h s a.1).2))<|a.4⟩ ih
theorem Rn.tM(h:Rn t c ps a)(g:zd t a v s b):Rn t c (ps++[(v,s)]) b:=by
 induction h with
 |nil c=>exact .cons _ _ _ _ _ _ g (.nil _)
 |cons c d e i j ps f _ ih=>exact .cons _ _ _ _ _ _ f (ih g)
def Bp(t:T):Prop:=Q3
 (t.pf=true)
 (t.ps.length<15000000)
 (∀s,Sn t s->(t.cs s).length<30)
noncomputable def lL(I:bT->Nat):V:=.ref (I (.ob .cK))
noncomputable def gW(ps:List (Int×Int)):List V:=ps.map λp=>.aE [.int p.1,.int p.2]
noncomputable def T.add(t:T)(r:V)(c:List Int)(pr nt:V)(e:Int):T:=(t.qB (t.ps++[(r,c,pr,nt)])).vu e
theorem Bp.bf(b:Bp t):t.ps.length<Mp.bf:=Nat.lt_trans b.2 (iV (bt rfl))
theorem gF(h:aB C e l A λv A=>Ss C r (l.set x v) A Q):Ss C (.bP x e::r) l A Q:=h
theorem JG(M:Mem I t Z A)(b:Bp t)(h:Ev C l A a (.ref (I .ps)))(e:(t.ps.length:Int)=x):Ev C l A (.b1 .len a) (.int x):=by
 haveI:=oG h (M.1 .ps _ (yu b.1)) (by rw[b9];exact c9 b.bf)
 rw[b9]at this;exact aT e this
theorem JF(M:Mem I t Z A)(h:Ev C l A a (.ref p))(e:Pt I t Z p (.list E))(b:E.length<=bf)(g:(E.length:Int)=x):Ev C l A (.b1 .len a) (.int x):=aT g (oG h (M.pt e) b)
theorem ah_(M:Mem I t Z A)(b:Bp t)(q:Q (.int t.ps.length) A):aA (k+1) .HJ [lL I] A Q:=
 ⟨_,rfl,cI (JG M b (fG M (O rfl) rfl (nM b.1) rfl) rfl) q⟩
theorem zJ(M:Mem I t Z A)(b:Bp t)(h:Sn t s)(Q:V->H->Prop)(q:Q (.aE (Zl (t.cs s))) A):aA (k+1) .pC [lL I,.int s] A Q:=by
 refine gn λa=>az (IV h) λx c=>aU c λd e=>a<|⟨_,rfl,cI (DT (uD (fG M (O rfl) rfl (nM b.1) rfl) (O rfl) (M.1 .ps _ (yu b.1)) (by rw[b9];exact c9 b.bf) (by rw[b9];exact mA h.1 h.2) (by simp only[List.getElem?_map,d];rfl)) a8 rfl (aP (λy=>some (V.aE (Zl y))) e.symm)) q⟩
theorem HX{nt:V}(M:Mem I t Z A)(b:Bp t)(hr:V.om (.str rs) [.str "input",.str "define",.str "ite_term",.str "three",.str "bits",.str "congruence",.str "farkas",.str "branch",.str "divide",.str "cut",.str "resolve"]=some true)(N:Td c)(R:c.length<64)(hp:∀p∈pr,Sn t p)
 (q:∀f e,Mem I (t.add (.str rs) c (.aE (Zl pr)) nt e) Z f->Q (.int t.ps.length) f):aA (k+2) .wd [lL I,.str rs,.aE (Zl c),.aE (Zl pr),nt] A Q:=by
 have j:∀{l:aH} {A n w J},Mem I J Z A->J.pf=true->l .X=some (lL I)->kq (kv I J .cK) n=some w->Cl.cK.has n=true->Ev (aA (k+1)) l A (.aC (.var .X) n) w:=λM h a b c=>fG M (O a) b (nM h) c;refine⟨_,rfl,dG (JG M b (j M b.1 rfl rfl rfl) rfl) ?_⟩;refine bL (DV (O rfl) (λQ q=>q) hr rfl) nf λY=>c7<|bL (oH (nE (aI (O rfl) aX) (aeB N R)) rfl) nf λY=>c7<|aiF (λE l f=>f=A/\l .X=some (lL I)/\l .bO=some (.int t.ps.length)/\l .rule=some (.str rs)/\l .eJ=some (.aE (Zl c))/\l .tG=some (.aE (Zl pr))/\l .F8=some nt/\∀v∈E,∃p,v=.int p/\Sn t p) (O rfl) (o8 rfl rfl rfl rfl rfl rfl rfl (λv W=>by
  obtain⟨p,fT,rfl⟩:=cW.mp W;exact⟨p,rfl,hp p fT⟩)) ?_ ?_
 .intro v E l A r P p1 Y Y;refine tY r λm d g s y C G h=>?_;try clear r
  haveI m:=m.symm;subst m;obtain⟨p,rfl,hs⟩:=h v (bE ..);haveI e:Ev (aA (k+1)) (l.set .cC (.int p)) A (.qU (.int 0) (.var .cC) (.var .bO)) (.bool true):=λQ q=>cR _ (fF rfl (cE 0 p (cg rfl rfl (λz=>absurd hs.1 z) λY=>⟨_,g,_,rfl,B (cO hs.2) q⟩)));refine bL (oH e rfl) nf λY=>c_ (p1 _ _ ?_).1;exact o8 rfl d g s y C G λu hu=>h u (cP _ hu)
 .intro l A L;refine gn λkG=>tY L λo d g s y C G Y=>?_;try clear L
  subst o;refine kG<|rY M (j M b.1 d rfl rfl) (ju (aI (O ‹_›) (aI (JL (O ‹_›)) (aI (JL (O ‹_›)) (aI (O ‹_›) aX))))) (yu b.1) (by rw[b9];exact b.bf) (by
   haveI:=UN (I:=I) (x:=t.ps++[(V.str rs,c,V.aE (Zl pr),nt)]) b.1;rwa[iJ]at this) λA M=>?_
  haveI i:=b.1;have bZ:∀e,Mem I (t.add (.str rs) c (.aE (Zl pr)) nt e) Z A->Ss (aA (k+1)) [.ret (.var .bO)] l A λfl Y A=>Q fl.val A:=λe M=>cI (O ‹_›) (q A e M);haveI len:Ev (aA (k+1)) l A (.eq false (.b1 .len (.var .eJ)) (.int 0)) (.bool (decide ((c.length:Int)=0) !=false)):=di (DX (O ‹_›) rfl) a8 rfl;have em:Ev (aA (k+1)) l A (.dw .lt (.aC (.var .X) .sO) (.int 0)) (.bool (decide (t.pe<0))):=eP (j M i d rfl rfl) a8 rfl;refine bL (gT (dC len λY=>dC em λY=>hO)) (λY=>?_) λY=>c7 (bZ t.pe (by
   haveI e:(t.add (.str rs) c (.aE (Zl pr)) nt t.pe)=t.qB (t.ps++[(.str rs,c,.aE (Zl pr),nt)]):=by clear b hp q g M i bZ em;cases t;rfl
   exact B e<|M))
  refine kA M (O ‹_›) (O d) (nM i) (UM i) rfl λA M=>c7 (cI (O ‹_›) (q A _ M))
theorem aiE(a:List (Int×Int)->aH->H->Prop)(h:Ev C l A it (.ref p))(e:A p=some (.list (gW ps)))(g:ps.length<=bf)(h0:a ps l A)(hp:∀E l A,a E l A->A p=some (.list (gW ps)))
 (step:∀v s E l A,a ((v,s)::E) l A->∀P:Fl->aH->H->Prop,(∀l A,a E l A->P .next l A/\P .cont l A)->(∀l A,Ss C r l A Q->P .brk l A)->(∀v l A,Q (.ret v) l A->P (.ret v) l A)->Ss C b ((l.set x (.int v)).set y (.int s)) A P)
 (bZ:∀l A,a [] l A->Ss C r l A Q):Ss C (.for true [x,y] .seq [it] b::r) l A Q:=by
 refine h _ (cR _ (aS e (by simp only[gW,b9];exact g) (rj (λws l A=>∃E,ws=gW E/\a E l A) ?_ ?_ _ _ _ ⟨ps,rfl,h0⟩)))
 .rintro v ws l A ⟨E,e,c⟩;cases E with
  |nil=>injection e
  |cons u us=>
   cases e;exact⟨hp _ _ _ c,λP i j k=>cE _ _ (aS rfl rfl (step u.1 u.2 us l A c P (λl A h=>i l A ⟨us,rfl,h⟩) j k))⟩
 .intro l A d;refine az d λE f=>aU f λe c=>?_;clear f;cases E with
  |nil=>exact⟨hp _ _ _ c,bZ l A c⟩
  |cons u us=>injection e
theorem VC(b:Ev C l A a (.aE E))(d:fX C l A c ws)(e:ws.length<=bf)(f:E.length+ws.length<=bf)(k:∀p,A p=none->R (.aE (E++ws)) (A.set p (.list ws))):aB C (.qJ a (.b1 .tuple c)) l A R:=
 b _ (d _ λp hp=>cR ws (aS H.bC e (cE E ws (cg rfl rfl f (k p hp)))))
theorem aiy(M:Mem I t Z A)(f:t.pf=true)(a:Ev C l A o (lL I))(b:Ev C l A d v1)(e:Ev C l A g v2)(h:Ev C l A i v3)(j:fX C l A c ws)(m:ws.length<=bf)(k:∀p,A p=none->C .wd [lL I,v1,v2,v3,.aE ws] (A.set p (.list ws)) λv A=>Q (.ret v) l A):Ss C (.ret (.aZ o .cK .wd [d,g,i,.b1 .tuple c])::r) l A Q:=
 a _ ⟨d_ _ _ _ (aS rfl ((M.ob .cK (nM f)).1) ((M.ob .cK (nM f)).2)),b _ (e _ (h _ (j _ λp hp=>cR ws (aS H.bC m (k p hp)))))⟩
theorem Rn.sn(h:Rn t c ps a):∀p∈ps,Sn t p.2:=by
 induction h with
 |nil c=>exactλp h=>absurd h gh
 |cons c d e v s ps g _ ih=>exactλp h=>(dW.mp h).elim (λq=>B q g.1) (ih p)
theorem Rn.td(h:Rn t c ps a)(b:Td c)(f:c.length<30):Td a/\a.length<30:=by
 induction h with
 |nil c=>exact⟨b,f⟩
 |cons c d e v s ps g _ ih=>exact ih g.2 g.3
theorem Jw:∀{c:List Int},V.l_ (Zl c) (Zl c)=some true
 |[]=>rfl
 |x::c=>by
  show(match V.sP (.int x) (.int x)with|some true=>V.l_ (Zl c) (Zl c)|r=>r)=_
  exact B (show V.sP (.int x) (.int x)=some true from aP some (cO rfl)) Jw
theorem VO:V.eqv (.aE (Zl c)) (.aE (Zl c))=some true:=by
 haveI f:(Zl c).all V.iB=true:=iI.mpr λv h=>by refine az (cW.mp h) λx a=>aU a λY b=>?_;clear a;subst b;rfl
 show(if(Zl c).all V.iB&&(Zl c).all V.iB then V.l_ (Zl c) (Zl c)else none)=_
 exact B f Jw
theorem ua{r pr nt:V}:(t.add r c pr nt e).cs t.ps.length=c/\Sn (t.add r c pr nt e) t.ps.length/\∀s,Sn t s->(t.add r c pr nt e).cs s=t.cs s/\Sn (t.add r c pr nt e) s:=by
 haveI a:(t.add r c pr nt e).ps=t.ps++[(r,c,pr,nt)]:=rfl;haveI d:(t.ps++[(r,c,pr,nt)]).length=t.ps.length+1:=cx;refine(aS ?_ ⟨fE _,by rw[a,d];exact g9.mpr (k5 _)⟩ λs hs=>(aS ?_ hs.1 (by rw[a,d];have:=hs.2;lia)))
 .unfold T.cs;rw[a,Int.toNat_natCast,lS (dR _),Nat.sub_self];rfl
 .refine az (IV hs) λx b=>aU b λf g=>?_;simp only[g];unfold T.cs;refine B a<|B (lR (fR.mp f).1) ?_;exact B f rfl
def Lg(t J:T)(c:List Int)(s:Int):Prop:=Q3
 (J=t\/∃pr nt e,J=t.add (.str "resolve") c pr nt e)
 (Sn J s)
 (J.cs s=c)
theorem UE(M:Mem I t Z A)(b:Bp t)(h0:Sn t s0)(hc:Td (t.cs s0))(R:Rn t (t.cs s0) ps c)(hp:Pt I t Z p (.list (gW ps)))(hl:ps.length<64)(hn:ps≠[])(q:∀w pr nt e,Mem I (t.add (.str "resolve") c pr nt e) Z w->Q (.int t.ps.length) w):aA (k+4) .HI [lL I,.int s0,.ref p] A Q:=by
 have G:∀{l:aH} {A} {e:a7} {s:Int},Mem I t Z A->l .X=some (lL I)->Sn t s->Ev (aA (k+3)) l A e (.int s)->Ev (aA (k+3)) l A (.aZ (.var .X) .cK .pC [e]) (.aE (Zl (t.cs s))):=λM h hs he=>gA M (O h) (nM b.1) (aI he aX) (zJ M b hs);have j:ps.length<=bf:=aV (c9 hl) (bt rfl);refine⟨_,rfl,dG (G M rfl h0 (O rfl)) ?_⟩;refine aiE (λaY l A=>∃i,Rn t i aY c/\i.length<30/\l .X=some (lL I)/\l .tO=some (.aE (Zl i))/\l .first=some (.int s0)/\l .eH=some (.ref p)/\Mem I t Z A) (O rfl) (M.pt hp) j (cR _ (oy R (b.3 s0 h0) rfl rfl rfl rfl M)) (λE l A X0=>az X0 λY h=>h.2.2.2.2.2.2.pt hp) ?_ ?_
 .intro v s aY l A J P p1 Y Y;refine az J λi L=>vY L λR cl m l2 N W M=>?_;clear L;try clear J
  cases R with
  |cons _ c1 _ _ _ _ g R=>
   refine az g.4 λx Lz=>eY Lz λn x1 x2 x3 x4=>?_;clear Lz;subst n;refine gF ((aI (O ‹_›:Ev (aA (k+3)) ((l.set .iw (.int (U x))).set .gu (.int s)) A (.var .tO) (.aE (Zl i))) (aI (G M m g.1 (O rfl)) (aI (O rfl) aX))) _ (ahy M x1 x2 x3 g.2 x4 cl (b.3 s g.1) λA M=>?_));refine bL (qb (O rfl) λh=>nomatch h) nf λY=>c_ (p1 _ _ ?_).1
   exact cR c1 (oy R g.3 m rfl N W M)
 .intro l A LF;refine gn λkG=>az LF λi LH=>vY LH λRc cl m l2 N W M=>?_;clear LH;try clear LF
  haveI ec:i=c:=by cases Rc;rfl
  subst ec;refine kG ?_;haveI r:=dp λz=>hn (List.length_eq_zero_iff.mp (Int.ofNat.inj z));haveI lp:(gW ps).length=ps.length:=b9 ..;refine bL (di (JF M (O ‹_›) hp (B lp j) (by rw[lp])) a8 (by refine B r ?_;rfl)) nf λY=>c7 ?_
  have hw:gW ps=(ps.map λp=>(V.int p.1,V.int p.2)).map λp=>.aE [p.1,p.2]:=by rw[fk];rfl
  have lw:(ps.map λp=>(V.int p.1,V.int p.2)).length<=bf:=by rw[b9];exact j
  have m1:∀f:V×V->V,∀g:Int×Int->Int,(∀p,f (.int p.1,.int p.2)=.int (g p))->(ps.map λp=>(V.int p.1,V.int p.2)).map f=Zl (ps.map g):=λf g h=>by
   show _=(ps.map g).map V.int;simp only[fk,fk];exact k8 λp Y=>h p
  haveI la:(Zl (ps.map Prod.snd)).length<=bf:=by rw[cj,b9];exact j
  haveI u:(Zl (ps.map Prod.fst)).length<=bf:=by rw[cj,b9];exact j
  have drop:∀{A a o},A a=none->Mem I t Z A->Mem I t Z (A.set a o):=λ{A a o} ha M=>(M.dy (.inl ha)).fD λy o d=>by
   haveI:y≠a:=λz=>by replace d:=z▸d;replace d:=(M.dP ha)▸d;exact nn d
   exact B (H.a6 this) d
  haveI n1:=JO (C:=aA (k+3)) (cN:=.var .gu) (x:=.iw) (y:=.gu) (O ‹_›) (hw▸M.pt hp) lw λp hp=>O rfl;rw[m1 _ Prod.snd λY=>rfl]at n1;refine gF (VC (ju (aI (O ‹_›) aX)) n1 la ?_ λa ha=>?_)
  .rw[cj,b9];haveI e1:[V.int s0].length=1:=rfl;haveI e2:1+ps.length<=100:=by lia
   exact aT e1<|aV e2 (bt rfl)
  haveI M:=drop (o:=.list (Zl (ps.map Prod.snd))) ha M;generalize A.set a (bN.list (Zl (ps.map Prod.snd)))=A at M;haveI n2:=JO (C:=aA (k+3)) (l:=l.set .tG (.aE ([.int s0]++Zl (ps.map Prod.snd)))) (cN:=.var .iw) (x:=.iw) (y:=.gu) (O ‹_›:Ev _ _ _ (.var .eH) (.ref p)) (hw▸M.pt hp) lw λp hp=>O rfl;rw[m1 _ Prod.fst λY=>rfl]at n2;refine aiy (v3:=.aE (Zl (s0::ps.map Prod.snd))) M b.1 (O m) n_ (O ‹_›) (O rfl) n2 u λa ha=>?_;haveI M:=drop (o:=.list (Zl (ps.map Prod.fst))) ha M;haveI td:=R.td hc (b.3 s0 h0);refine HX M b rfl td.1 (Nat.lt_trans td.2 (by decide)) (λx hx=>?_) λA e M=>q A _ _ e M
  rcases dW.mp hx with z|z
  .exact B z h0
  .obtain⟨y,d,rfl⟩:=cW.mp z;exact R.sn y d
noncomputable def gV(ps:List (Int×Option Int)):List V:=ps.map λp=>.aE [.int p.1,oi p.2]
theorem JI(M:Mem I t Z A)(h:l .X=some (me I)):Ev C l A (.aC (.var .X) .dK) (cond t.pf (lL I) .none):=fG M (O h) rfl bb rfl
theorem JJ(M:Mem I t Z A)(h:l .X=some (me I))(f:t.pf=true):Ev C l A (.aC (.var .X) .dK) (lL I):=by
 haveI:=JI (C:=C) M h;rw[f]at this;exact this
theorem w7(M:Mem I t Z A)(h:l .X=some (me I)):Ev C l A (.hV false (.aC (.var .X) .dK)) (.bool (!t.pf)):=by
 haveI:=JI (C:=C) M h;cases f:t.pf with
 |true=>rw[f]at this;exact qb this λh=>nomatch h
 |false=>rw[f]at this;exact qa this
theorem FQ(M:Mem I t Z A)(h:t.pf=false)(Q:V->H->Prop)(q:Q f A):aA (k+1) .t_ [me I,c,f,p] A Q:=
 ⟨_,rfl,bL (b:=true||false) (mU (kj (by haveI:=w7 (C:=aA k) (l:=((((aH.set (λY=>none) .X (me I)).set .eJ c).set .first f).set .eH p)) M rfl;rw[h]at this;exact this) nt)) (λY=>cI (O rfl) q) nt⟩
theorem Bq(M:Mem I t Z A)(b:Bp t)(h0:Sn t s0)(d:Td (t.cs s0))(R:Rn t (t.cs s0) ps c)(hp:Pt I t Z p (.list (gW ps)))(f:ps.length<64)(i:t.ps.length+1<15000000)(q:∀g J s,Mem I J Z g->Lg t J c s->Q (.int s) g):aA (k+5) .t_ [me I,.aE (Zl c),.int s0,.ref p] A Q:=by
 have np:∀l:aH,l .X=some (me I)->Ev (aA (k+4)) l A (.hV false (.aC (.var .X) .dK)) (.bool false):=λl h=>by haveI:=w7 (C:=aA (k+4)) M h;rw[b.1]at this;exact this
 have j:ps.length<=bf:=aV (c9 f) (bt rfl);have nl:∀l:aH,l .eH=some (.ref p)->Ev (aA (k+4)) l A (.jf false (.var .eH)) (.bool ((gW ps).isEmpty !=false)):=λl h=>uC (O h) (M.pt hp) (by simp only[gW,b9];exact j)
 cases ps with
 |nil=>
  cases R;exact⟨_,rfl,bL (b:=false||(true||false)) (mU (kj (np _ rfl) λY=>kj (nl _ rfl) nt)) (λY=>cI (O rfl) (q A t s0 M ⟨.inl rfl,h0,rfl⟩)) nt⟩
 |cons x ps=>
  refine⟨_,rfl,bL (b:=false||(false||false)) (mU (kj (np _ rfl) λY=>kj (nl _ rfl) λY=>w8)) nf λY=>c7 ?_⟩;refine gF (iP M (JJ M rfl b.1) (nM b.1) (aI (O rfl) (aI (O rfl) aX)) (UE M b h0 d R hp f (λh=>List.cons_ne_nil _ _ h) λA pr nt e M=>?_));haveI a:=ua (t:=t) (r:=.str "resolve") (pr:=pr) (nt:=nt) (c:=c) (e:=e);have a1:=a.1;have a2:=a.2.1;haveI m:=a.2.2;haveI n:Bp (t.add (.str "resolve") c pr nt e):=⟨b.1,by show(t.ps++[_]).length<_;exact B cx i,λs hs=>by
   rcases Int.lt_or_le s t.ps.length with z|z
   .exact B ((m s ⟨hs.1,z⟩).1) (b.3 s ⟨hs.1,z⟩)
   .haveI:s=t.ps.length:=by
     haveI o:s< (t.ps++[((V.str "resolve"),c,pr,nt)]).length:=hs.2;rw[cx]at o;haveI:[((V.str "resolve"),c,pr,nt)].length=1:=rfl;lia
    exact B this<|B a1 ((R.td d (b.3 s0 h0)).2)⟩
  haveI ce:Ev (aA (k+4)) (((((aH.set (λY=>none) .X (me I)).set .eJ (.aE (Zl c))).set .first (.int s0)).set .eH (.ref p)).set .step (.int t.ps.length)) A (.eq true (.aZ (.aC (.var .X) .dK) .cK .pC [.var .step]) (.var .eJ)) (.bool (true !=true)):=
   uB (gA M (JJ M rfl b.1) (nM b.1) (aI (O rfl) aX) (zJ M n a2)) (O rfl) (B a1 VO)
  exact bL ce nf λY=>c7 (cI (O rfl) (q A _ _ M ⟨.inr (d_ pr nt e rfl),a2,a1⟩))
inductive ek(t:T):Prop|mk
 (Y:t.pf=true)
 (Y:∀s,Sn t s->(t.cs s).length<30/\∀x∈t.cs s,a9 t x)
 (Y:∀c,Cn t c->∃s,t.st c=some s/\Sn t s/\Td (t.cs s)/\∀x,x∈t.cs s↔x∈t.cl c)
 (Y:∀v s,In t v->t.us v=some s->∃l,a9 t l/\U l=v/\t.val l=1/\t.ae v=0/\Sn t s/\t.cs s=[l])
 (Y:0<=t.rt)
 (Y:t.rt<=t.tr.length)
 (Y:∀(i:Nat) l,(i:Int)<t.rt->t.tr[i]? =some l->∃s,t.us (U l)=some s)
 (Y:(t.ps.length:Int)<=14000000+t.rt)
 :ek t
theorem ek.bp(P:ek t)(b:Bd t):Bp t/\t.ps.length+1<15000000:=by
 haveI h:t.ps.length+1<15000000:=by haveI:=P.8;haveI:=P.6;haveI:=b.2;lia
 exact⟨⟨P.1,Nat.lt_of_succ_lt h,λs hs=>(P.2 s hs).1⟩,h⟩
structure Wo(W:(Int->Prop)->Prop):Prop where
 c:∀h,W h->∀x,h x->¬h (-x)
def iz(W:(Int->Prop)->Prop)(c:List Int):Prop:=∀h,W h->∃x∈c,h x
inductive gO(W:(Int->Prop)->Prop)(t:T):Prop|mk
 (Y:∀c,Cn t c->iz W (t.cl c))
 (Y:t.pf=true->∀s,Sn t s->iz W (t.cs s))
 :gO W t
theorem iz.res(wo:Wo W)(f:iz W c)(hd:iz W d)(h:∀x,(x∈c/\x≠p)\/(x∈d/\x≠-p)->x∈e):iz W e:=λw hw=>by
 refine az (f w hw) λx g=>aU g λi a=>?_;rcases cY (x=p)with z|z
 .exact az (hd w hw) λy j=>aU j λk b=>⟨y,h y (.inr ⟨k,λq=>wo.c w hw x a (B z<|aT q<|b)⟩),b⟩
 .exact⟨x,h x (.inl ⟨i,z⟩),a⟩
theorem Rn.uz(wo:Wo W)(aB:∀s,Sn t s->iz W (t.cs s))(h:Rn t c ps f)(b:iz W c):iz W f:=by
 induction h with
 |nil c=>exact b
 |cons c d e v s ps g _ ih=>
  exact az g.4 λp a=>eY a λY Y Y Y h=>ih (b.res wo (aB s g.1) λx i=>(h x).mpr i)
inductive lj(t:T):Prop|mk
 (Y:t.kW=t.m)
 (Y:t.nB=t.m)
 (Y:t.nW=t.m)
 :lj t
theorem cB.b_(c:cB t){i j:Nat}(h:i<=j)(d:t.tr[i]? =some x)(f:t.tr[j]? =some y):t.ae (U x)<=t.ae (U y):=by
 refine br (c.6 i x d) λx0 o g=>br (c.6 j y f) λk p l=>?_;cases e:(t.ae (U x)).toNat with
 |zero=>lia
 |succ n=>
  haveI m:n<t.aK.length:=by lia
  haveI hd:=dZ m;haveI a:=(g n _ hd).mp (by lia)
  have b:=(l n _ hd).mpr (by lia)
  lia
noncomputable def T.uq(t:T)(us:Int->Option Int)(rt:Int)(ps:List (V×List Int×V×V))(pe:Int):T:={t with us:=us,rt:=rt,ps:=ps,pe:=pe}
def Uq(t J:T):Prop:=∃us rt ps pe,J=t.uq us rt ps pe
theorem Uq.gX:Uq t t:=(fh t.us t.rt t.ps t.pe (by cases t;rfl))
theorem Uq.trans(a:Uq t t1)(b:Uq t1 f):Uq t f:=by
 refine gz a λu r p e c=>?_;try clear a
 subst c;refine gz b λg r' p' h d=>?_;try clear b;subst d;exact fh g r' p' h rfl
theorem Uq.add{r pr nt:V}:Uq t (t.add r c pr nt e):=fh t.us t.rt _ e rfl
theorem Uq.us:Uq t (t.p0 x):=fh x t.rt t.ps t.pe rfl
theorem Uq.rt:Uq t (t.qD x):=fh t.us x t.ps t.pe rfl
def Gr(t J:T):Prop:=Q3
 (Uq t J)
 (∀s,Sn t s->Sn J s/\J.cs s=t.cs s)
 (∀W,Wo W->gO W t->gO W J)
theorem Gr.gX:Gr t t:=⟨.gX,λY h=>⟨h,rfl⟩,λY Y h=>h⟩
theorem Gr.trans(a:Gr t t1)(b:Gr t1 c):Gr t c:=⟨a.1.trans b.1,λs h=>⟨(b.2 s (a.2 s h).1).1,(b.2 s (a.2 s h).1).2.trans (a.2 s h).2⟩,λW w h=>b.3 W w (a.3 W w h)⟩
theorem C6{r pr nt:V}{P:List Int->Prop}(a:P c)(b:∀s,Sn t s->P (t.cs s)):∀s,Sn (t.add r c pr nt e) s->P ((t.add r c pr nt e).cs s):=λu hu=>by
 refine br (ua (t:=t) (r:=r) (pr:=pr) (nt:=nt) (c:=c) (e:=e)) λa1 a2 d=>?_;rcases Int.lt_or_le u t.ps.length with z|z
 .exact B ((d u ⟨hu.1,z⟩).1) (b u ⟨hu.1,z⟩)
 .haveI:u=t.ps.length:=by
   haveI f:u< (t.ps++[(r,c,pr,nt)]).length:=hu.2;rw[cx]at f;haveI:[(r,c,pr,nt)].length=1:=rfl;lia
  simp only[this,a1];exact a
theorem Lg.new(h:Lg t J c s){P:List Int->Prop}(b:P c)(a:∀s,Sn t s->P (t.cs s)):∀s,Sn J s->P (J.cs s):=by
 rcases h.1 with rfl|⟨pr,nt,e,rfl⟩
 .exact a
 .exact C6 b a
theorem Lg.gr(h:Lg t J c s)(he:∀W,Wo W->gO W t->iz W c)(f:t.pf=true):Gr t J:=by
 have en:=λW w aB=>h.new (he W w aB) (aB.2 f);rcases h.1 with rfl|⟨pr,nt,e,rfl⟩
 .exact .gX
 .exact⟨.add,λs hs=>⟨(ua.2.2 s hs).2,(ua.2.2 s hs).1⟩,λW w aB=>⟨aB.1,λY=>en W w aB⟩⟩
theorem Lg.len(h:Lg t J c s):J.ps.length<=t.ps.length+1:=by
 rcases h.1 with rfl|⟨pr,nt,e,rfl⟩
 .exact Nat.le_succ _
 .show(t.ps++[_]).length<=_;exact B cx (dR _)
def SI(C:Cx)(o i:a7)(r:List St)(l:aH)(Q:Fl->aH->H->Prop)(v:V)(A:H):Prop:=aB C o l A λw A=>aB C i l A λu A=>∃p E j k,w=.ref p/\u=.int j/\A p=some (.list E)/\E.length<=bf/\mZ E.length j=some k/\Ss C r l (A.set p (.list (E.set k v))) Q
theorem B8(h:aB C e l A λv A=>SI C o i r l Q v A):Ss C (.fK o i e::r) l A Q:=h
theorem ah9{C:Cx}{l:aH}{A Z:H}{I:bT->Nat}{t J:T}{Q:Fl->aH->H->Prop}{r:List St}{o i:a7}{aD:bT}{f:Int->V}{j:Int}{v:V}(M:Mem I t Z A)(d:Ev C l A o (.ref (I aD)))(hi:Ev C l A i (.int j))(b:cont I t aD=some (.list (cS (t.n+1) f)))(e:t.n<=5)(a:In t j)
 (ch:eZ I t J aD (.list (cS (t.n+1) (aW f j v)))) (k:∀c,Mem I J Z c->Ss C r l c Q):SI C o i r l Q v A:=
 d _ (hi _ (fh _ _ j _ (ee rfl rfl (M.1 _ _ b) (B fJ (qm e)) (B fJ (mA a.1 (Int.lt_add_one_of_le a.2))) (B (wq a.1) (k _ (M.set aD b ch.1 ch.2))))))
theorem Wz(a:List Int->aH->H->Prop)(h0:a xs l A)
 (step:∀v E l A,a (v::E) l A->∀P:Fl->aH->H->Prop,(∀l A,a E l A->P .next l A/\P .cont l A)->(∀l A,Ss C r l A Q->P .brk l A)->(∀v l A,Q (.ret v) l A->P (.ret v) l A)->Ss C b (l.set x (.int v)) A P)
 (bZ:∀l A,a [] l A->Ss C r l A Q):tU C x b r l Q (.aE (Zl xs)) A:=by
 refine rj (λws l A=>∃E,ws=Zl E/\a E l A) ?_ ?_ _ _ _ ⟨xs,rfl,h0⟩
 .rintro v ws l A ⟨E,e,c⟩;cases E with
  |nil=>injection e
  |cons u us=>
   cases e;exact⟨trivial,λP d f g=>⟨_,rfl,step u us l A c P (λl A h=>d l A ⟨us,rfl,h⟩) f g⟩⟩
 .rintro l A ⟨E,e,c⟩;cases E with
  |nil=>exact⟨trivial,bZ l A c⟩
  |cons u us=>injection e
theorem sR(M:Mem I t Z A)(b:Bd t)(z:lj t)(h:Ev C l A a (.ref (I .st)))(g:Ev C l A i (.int c))(d:Cn t c):Ev C l A (.aQ a i) (oi (t.st c)):=
 w3 M h g rfl (B z.1 (c9 b.bm)) d.1 (B z.1 d.2)
def RO(t0:T)(I:bT->Nat)(Z A:H)(v:Int)(l:aH)(t:T):Prop:=Q6
 (Mem I t Z A)
 (Gr t0 t)
 (ek t)
 (t.ps.length+t0.rt<=t0.ps.length+t.rt)
 (l .X=some (me I))
 (l .var=some (.int v))
theorem Uq.d(u:Uq t J):(Bd t->Bd J)/\(lj t->lj J)/\(cB t->cB J)/\(fY t->fY J)/\(dY t->dY J):=by
 refine gz u λY Y Y Y a=>?_;subst a;exact e_ (λb=>⟨b.1,b.2,b.3,b.4,b.5,b.6⟩) (λb=>⟨b.1,b.2,b.3⟩) (λb=>⟨b.1,b.2,b.3,b.4,b.5,b.6⟩) (λb=>⟨b.1⟩) λb=>⟨b.1,b.2⟩
theorem Uq.f(u:Uq t J):J.n=t.n/\J.tr=t.tr/\J.aa=t.aa/\J.ae=t.ae/\J.S=t.S/\J.R=t.R/\J.cl=t.cl/\J.m=t.m/\J.st=t.st/\J.pf=t.pf:=by
 refine gz u λY Y Y Y a=>?_;try clear u
 subst a;exact yV rfl rfl rfl rfl rfl rfl rfl rfl rfl rfl
theorem Qi(e:cB t)(R:fY t){i:Nat}(a:t.tr[i]? =some x)(h0:t.ae (U x)=0):Cn t (t.R (U x))/\x∈t.cl (t.R (U x))/\∀y∈t.cl (t.R (U x)),y≠x->t.val y= -1/\t.S (U y)<i:=
 (R.1 i x a).resolve_left λb=>aU b λY c=>az c λj d=>aU d λh Y=>by lia
def sr(t:T)(x:Int)(a:List Int)(done:List Int)(ps:List (Int×Int)):Prop:=Q2
 (Rn t a ps (a.filter λy=>decide (y=x\/y∉done)))
 (ps.length<=done.length)
theorem sr.skip(e:sr t x d done ps)(h:y=x):sr t x d (done++[y]) ps:=
 ⟨by
   haveI:(d.filter λz=>decide (z=x\/z∉done++[y]))=d.filter λz=>decide (z=x\/z∉done):=List.filter_congr λz Y=>decide_eq_decide.mpr ⟨λg=>g.imp id λa b=>a (lO _ b),λg=>g.elim .inl λa=>(cY (z=x)).imp id λn b=>(dT.mp b).elim a λc=>n ((cL.mp c).trans h)⟩;exact B this e.1,B cx (Nat.le_succ_of_le e.2)⟩
theorem sr.next(g:sr t x f done ps)(td:Td f)(ln:f.length<30)(i:y∈f)(h:y≠x)(nd:y∉done)(hs:Sn t s)(cs:t.cs s=[-y]):sr t x f (done++[y]) (ps++[(U y,s)]):=by
 refine⟨g.1.tM ⟨hs,⟨λz j=>td.1 z (dU.mp j).1,td.2.filter _⟩,df (lP ..) ln,y,rfl,?_,?_,?_,λz=>?_⟩,by simp only[cx,cx];exact Nat.succ_le_succ g.2⟩
 .exact dU.mpr ⟨i,cO (.inr nd)⟩
 .exactλq=>td.neg i (dU.mp q).1
 .exact B cs (jo _)
 .rw[dU,dU,cs,k6,k6,cL,dT,cL];constructor
  .rintro⟨a,b⟩;refine .inl ⟨⟨a,b.imp id λc d=>c (.inl d)⟩,λe=>?_⟩;exact b.elim (λq=>h (e.symm.trans q)) λq=>q (.inr e)
  .rintro(⟨⟨a,b⟩,c⟩|⟨a,b⟩)
   .exact⟨a,b.imp id λd e=>e.elim d c⟩
   .exact absurd a b
theorem kL(g:kD C l A es E)(k:C f E A R):aB C (.call f es) l A R:=g _ k
theorem Sd.nd(h:Sd xs ys):ys.Nodup:=h.2.imp (S:=λa b=>a≠b) λ{a b} g e=>afy (by rw[e]at g;exact g)
theorem Sd.len(h:Sd xs ys):ys.length<=xs.length:=h.nd.length_le_of_subset λx a=>(h.1 x).mp a
theorem PW:gW ps++[.aE [.int v,.int s]]=gW (ps++[(v,s)]):=by unfold gW;simp only[iJ];rfl
theorem Rj{i:Nat}(M:Mem I t Z A)(b:Bd t)(z:lj t)(ag:cB t)(R:fY t)(K:dY t)(P:ek t)(hx:t.tr[i]? =some x)(hv:U x=v)(h0:t.ae v=0)
 (q:∀af J s,Mem I J Z af->Gr t J->ek J->(J.ps.length:Int)+t.rt<=t.ps.length+J.rt->J.us v=some s->Q (.int s) af):aA (k+6) .CX [me I,.int v] A Q:=by
 subst hv;have iv:=(ag.3 i x hx).1.fu;refine⟨_,rfl,pY (λm l A=>∃J,(m:Int)=t.tr.length-J.rt/\RO t I Z A (U x) l J) (t.tr.length-t.rt).toNat ⟨t,Int.toNat_of_nonneg (Int.sub_nonneg_of_le P.6),M,.gX,P,g8 _,rfl,rfl⟩ ?_⟩;intro m l A LJ RR hR PP p1 Y Y;refine gn λG=>az LJ λJ LK=>aU LK λhm aaM=>?_;clear LK;try clear LJ
 obtain⟨M,g,P',hq,l1,l2⟩:=aaM;refine G ?_;haveI e1:=g.1.f.1;have e2:=g.1.f.2.1;haveI e4:=g.1.f.2.2.2.1;have d1:=g.1.d.1;haveI d2:=g.1.d.2.1;haveI d3:=g.1.d.2.2.1;haveI d4:=g.1.d.2.2.2.1;haveI d5:=g.1.d.2.2.2.2;have b':=d1 b;haveI z':=d2 z;have J':=d3 ag;haveI R':=d4 R;haveI K':=d5 K;haveI t5:=b'.1;haveI akg:In J (U x):=by unfold In;exact B e1<|iv
 have us:Ev (aA (k+5)) l A (.aQ (.aC (.var .X) .qK) (.var .var)) (oi (J.us (U x))):=eF M (bY M ‹_› rfl rfl) (O ‹_›) rfl ‹_› rfl ‹_›;refine mR (VW us) (λw=>?_) λw=>?_
 .have un:J.us (U x)=none:=by cases h:J.us (U x)with|none=>rfl|some s=>replace w:=h▸w;exact nf w
  have lF:J.tr[i]? =some x:=B e2 hx;have akt:=Int.not_lt.mp λw=>by obtain⟨s,h⟩:=P'.7 i x w lF;replace h:=un▸h;exact nn h
  obtain⟨n,hn⟩:∃n:Nat,J.rt=n:=⟨J.rt.toNat,(Int.toNat_of_nonneg P'.5).symm⟩;haveI il:=(fR.mp lF).1;have ad5:n<J.tr.length:=by lia
  have E:=dZ ad5;generalize J.tr[n]=y at E;haveI ly:=J'.3 n y E;have L0:=Int.le_antisymm (fp (J'.b_ (by lia) E lF) (by simp only[e4,h0];exact g8 _)) (J'.6 n y E).1
  have hZ:=Qi J' R' E L0;have r:=hZ.1;haveI yc:=hZ.2.1;haveI ro:=hZ.2.2;refine az (P'.3 _ r) λs0 aaG=>eI aaG λs1 s2 s3 s4=>?_;have iy:=ly.1.fu;haveI jF:=b'.jF;haveI q_:Ev (aA (k+5)) l A (.aC (.var .X) .rW) (.int n):=aT hn ((bY M ‹_› rfl rfl));refine dG (kh M (bY M ‹_› rfl rfl) q_ rfl jF E)<|dG (eF M (bY M ‹_› rfl rfl) (fO (x:=U y) (O rfl) rfl) rfl t5 rfl iy)<|vJ M (sS aX) λa A na M=>?_;generalize hN:J.R (U y)=N at r yc ro s1 s4;have lc:=b'.5 N r.1 r.2;refine kR (kL (aI (mc M b' (bY M ‹_› rfl rfl) (O rfl) r) aX) (ug M (ahn r) (df lc (by decide)) λA ys M sd=>?_))
  have sl:=aV sd.len lc;refine Wz (λaY l A=>∃done ps,ys=done++aY/\sr J y (J.cs s0) done ps/\Mem I J (Z.set a (.list (gW ps))) A/\l .X=some (me I)/\l .var=some (.int (U x))/\l .lit=some (.int y)/\l .bO=some (.int N)/\l .eH=some (.ref a)) (cE ([]) ([]) (o8 rfl ⟨?_,dR _⟩ M l1 l2 rfl rfl rfl)) ?_ ?_
  .exact B (List.filter_eq_self.mpr λz Y=>cO (.inr λh=>gh h)) (.nil _)
  .intro w ws l A LL P p1 Y Y;refine cF LL λdone ps aaN=>tY aaN λey mN M l1 l2 l3 l4 l5=>?_;try clear LL
   haveI ajH:w∈ys:=B ey (iW _ (bE ..));have wc:=(sd.1 w).mp ajH;have lw:=(K'.2 N w r wc).1;have nd:=λh=>by
    haveI:=sd.nd;rw[ey]at this;exact(jB.mp this).2.2 w h w (bE ..) rfl
   have JP:ys=(done++[w])++ws:=by simp only[ey,iX];rfl
   refine bL (di (O rfl) (O ‹_›) rfl) (λc=>?_) λc=>?_
   .have c:w≠y:=λe=>by replace c:=(cO e)▸c;exact nf c
    refine gn λG=>?_;obtain⟨r1,r2⟩:=ro w wc c;haveI nw:=J'.neg lw r1;obtain⟨s,hs⟩:=P'.7 _ _ (by lia) nw.2.1
    replace hs:=dJ▸hs;refine az (P'.4 _ s lw.fu hs) λu aaH=>iM aaH λu1 u2 u3 u4 u5 u6=>G ?_;have eu:=(kJ u2).resolve_left λe=>by rw[e,r1]at u3;exact absurd u3 (by decide)
    replace u6:=eu▸u6;have aeH:=lw.fu;haveI pl:ps.length<64:=df (aV mN.2 (by rw[ey,cx]at sl;exact aV (jK _ _) sl)) (by decide)
    refine m4 (v:=.aE [.int (U w),.int s]) M (O ‹_›) (ju (aI (fO (O rfl) rfl) (aI (eF M (bY M ‹_› rfl rfl) (fO (x:=U w) (O rfl) rfl) rfl t5 (by refine B hs ?_;rfl) aeH) aX))) H.bC (by simp only[gW,b9];exact Nat.lt_trans pl (iV (bt rfl))) λA M=>c_ (p1 _ _ ?_).1
    refine cE (done++[w]) (ps++[(U w,s)]) (o8 JP (mN.next s3 (P'.2 s0 s2).1 ((s4 w).mpr wc) c nd u5 u6) (M.fD λy o E=>?_) l1 l2 l3 l4 l5);rcases cY (y=a)with w|w
    .haveI w:=w.symm;subst w;rw[H.bC]at E⊢;exact B PW E
    .rw[H.a6 w]at E;rw[H.a6 w,H.a6 w];exact E
   .have c:w=y:=jX λe=>by replace c:=(dp e)▸c;exact nt c
    refine c_ (p1 _ _ ?_).1;exact cE (done++[w]) ps (o8 JP (mN.skip c) M l1 l2 l3 l4 l5)
  .intro l A LM;refine cF LM λdone ps LN=>tY LN λey mN M l1 l2 l3 l4 l5=>?_;clear LN;try clear LM
   rw[fQ]at ey;subst ey;have ef:((J.cs s0).filter λz=>decide (z=y\/z∉ys))=[y]:=by
    refine Td.yL ⟨λz hz=>s3.1 z (dU.mp hz).1,s3.2.filter _⟩ ⟨λz hz=>cL.mp hz▸ly.1.1,List.pairwise_singleton _ _⟩ λz=>?_;rw[dU,k6,cL];exact⟨λX5=>aU X5 λa b=>b.resolve_right λc=>c ((sd.1 z).mpr ((s4 z).mp a)),λe=>⟨(s4 z).mpr (B e yc),.inl e⟩⟩
   haveI hr:=mN.1;replace hr:=ef▸hr;refine aU (P'.bp b') λbp bl=>?_;haveI pl:ps.length<64:=df (aV mN.2 sl) (by decide)
   haveI es:Ev (aA (k+5)) l A (.aQ (.aC (.var .X) .cK) (.var .bO)) (.int s0):=by
    haveI:=sR (C:=aA (k+5)) M b' z' (bY M ‹_› rfl rfl:Ev _ l A (.aC (.var .X) .cK) _) (O ‹_›) r;rw[s1]at this;exact this
   refine B8 (iP M (O ‹_›) bb (aI (ju (aI (O ‹_›) aX)) (aI es (aI (O ‹_›) aX))) (Bq M bp s2 s3 hr (.inl H.bC) pl bl λA p s M L=>?_));have g2:=g.trans (L.gr (λW w aB=>hr.uz w (aB.2 P'.1) (aB.2 P'.1 s0 s2)) P'.1);refine yW ((L.gr (λW w aB=>hr.uz w (aB.2 P'.1) (aB.2 P'.1 s0 s2)) P'.1).1.f) λf1 f2 f3 f4 f5 f6 f7 f8 f9 mf=>?_;haveI aeI:In p (U y):=by unfold In;exact B f1<|iy
   haveI yI:p.n<=5:=B f1 t5;refine ah9 (v:=oi (some s)) M (bY M ‹_› rfl rfl) (fO (x:=U y) (O ‹_›) rfl) rfl yI aeI UT λA M=>kA M (dz (bY M ‹_› rfl rfl) a8 rfl trivial) (O ‹_›) bb UO rfl λA M=>d9 (p1 _ _ ?_).1;have q_:p.rt=J.rt:=by
    refine Or.elim L.1 (λe=>?_) (λaaI=>d7 aaI λY Y Y e=>?_)<;>refine B e ?_<;>rfl
   have JA:p.us=J.us:=by
    refine Or.elim L.1 (λe=>?_) (λaaJ=>d7 aaJ λY Y Y e=>?_)<;>refine B e ?_<;>rfl
   haveI akj:=L.len;have ss:=(L.gr (λW w aB=>hr.uz w (aB.2 P'.1) (aB.2 P'.1 s0 s2)) P'.1).2;refine hR (m-1) _ _ (by lia) ⟨(p.p0 (aW p.us (U y) (some s))).qD (p.rt+1),?_,M.fD λc o r=>?_,⟨(g2.1.trans .us).trans .rt,g2.2,λW w aB=>⟨(g2.3 W w aB).1,(g2.3 W w aB).2⟩⟩,⟨mf.trans P'.1,?_,λc r=>?_,λv s' hv hs=>?_,?_,?_,λj u hj hu=>?_,?_⟩,?_,l1,l2⟩
   .show _=_-(p.rt+1);rw[q_];lia
   .haveI:c≠a:=λw=>by replace r:=w▸r;replace r:=na▸r;exact nn r
    exact B (H.a6 this) r
   .intro u hu;have:=L.new (P:=λc=>c.length<30/\∀x∈c,a9 J x) ⟨iV (bt rfl),λx hx=>cL.mp hx▸ly.1⟩ P'.2 u hu;exact⟨this.1,λx hx=>by haveI:=this.2 x hx;unfold a9 at this⊢;exact B ((f1))<|this⟩
   .have oe:Cn J c:=by unfold Cn at r⊢;exact aT f8<|r
    exact gn λG=>az (P'.3 c oe) λa1 aaK=>eI aaK λa2 a3 a4 a5=>G<|(cR a1 (cg ((congrFun f9 c).trans a2) ((ss a1 a3).1) ((ss a1 a3).2▸a4) (λx=>B (((ss a1 a3).2))<|B f7<|a5 x)))
   .haveI hs:aW p.us (U y) (some s) v=some s':=hs;haveI vl:∀u,p.val u=J.val u:=λu=>by unfold T.val;exact B f3 rfl
    rcases cY (v=U y)with w|w
    .refine gn λG=>?_;subst w;rw[cU]at hs;injection hs with hs;subst hs
     exact G<|(cR y (ee (by show _/\-p.n<=y/\y<=p.n;exact B f1<|ly.1) rfl ((vl y).trans ly.2.1) ((congrFun f4 _).trans L0) L.2 L.3))
    .rw[b7 w,JA]at hs;refine az (P'.4 v s' (by unfold In at hv⊢;exact f1▸hv) hs) λu aaL=>iM aaL λu1 u2 u3 u4 u5 u6=>?_
     exact(cR u (ee (by show _/\-p.n<=u/\u<=p.n;exact f1▸u1) u2 ((vl u).trans u3) ((congrFun f4 _).trans u4) ((ss s' u5).1) ((ss s' u5).2.trans u6)))
   .show 0<=p.rt+1;rw[q_];lia
   .show p.rt+1<=p.tr.length;refine B q_<|B f2<|B hn ?_;lia
   .haveI hj:j<p.rt+1:=hj;show∃s',aW p.us (U y) (some s) (U u)=some s';rcases cY (U u=U y)with w|w
    .rw[w,cU];exact⟨_,rfl⟩
    .refine B (b7 w)<|B JA ?_;replace hu:=f2▸hu;refine P'.7 j u (Int.not_le.mp λe=>?_) hu;haveI:j=n:=by rw[q_]at hj;lia
     replace hu:=this▸hu;replace hu:=E▸hu;injection hu with hu;subst hu;exact w rfl
   .show p.ps.length<=14000000+(p.rt+1);rw[q_];haveI:=P'.8;lia
   .show p.ps.length+t.rt<=t.ps.length+(p.rt+1);refine B q_ ?_;lia
 .refine gn λG=>?_;obtain⟨s,hs⟩:∃s,J.us (U x)=some s:=by cases h:J.us (U x)with|none=>replace w:=h▸w;cases w|some s=>exact⟨s,rfl⟩
  refine G ?_;rw[hs]at us;exact cI us (q A J s M g P' hq hs)
structure Tv(t:T):Prop where
 a:∀v,In t v->t.aa v=0\/t.aa v=1\/t.aa v= -1
theorem cB.tv(a:cB t):Tv t:=⟨a.1⟩
noncomputable def T.fz(t:T)(v:Int):Int:=if t.aa v=1 then-v else v
noncomputable def T.fl(t:T)(p:Int->Prop):List Int:=open Classical in(((List.range t.n).map λ(i:Nat)=>(i:Int)+1).filter λv=>decide (p v)).map t.fz
def kC(t:T)(p:Int->Prop):Prop:=∀v,p v->1<=v/\v<=t.n/\t.aa v≠0
theorem qA(h:1<=v)(b:v<=t.n):a9 t v/\U v=v/\t.val v=t.aa v:=
 haveI a:=ub (Int.lt_of_lt_of_le (by decide) h)
 (aS (aS (λe=>absurd (e▸h) (by decide)) (fp (Int.neg_nonpos_of_nonneg (fE _)) (fp (by decide) h)) b) a (by rw[lM,bA (Int.lt_of_lt_of_le (by decide) h),a]))
theorem sU{t:T}{v:Int}(h:1<=v)(a:v<=t.n):U (t.fz v)=v:=by
 unfold T.fz;split
 .simp only[dJ,(qA h a).2.1]
 .exact(qA h a).2.1
set_option tactic.hygienic true in
theorem xf(d:Tv t){v:Int}(h:1<=v)(b:v<=t.n)(f:t.aa v≠0):a9 t (t.fz v)/\t.val (t.fz v)= -1:=by
 haveI c:=qA h b;have l:=c.1;haveI e:=c.2.2;unfold T.fz;split
 .rename_i q;exact⟨l.n,by simp only[kX l.1,e,q]⟩
 .rename_i q;exact⟨l,e.trans (((d.a v ⟨fp (by decide) h,b⟩).resolve_left f).resolve_left q)⟩
theorem oI(a:a9 t x)(b:t.val x= -1)(c:t.val y= -1)(h:U x=U y):x=y:=
 (kJ h).resolve_right λe=>by
   haveI:=kX (t:=t) a.1;simp only[show-x=y by lia,b,c]at this
   exact absurd this (by decide)
theorem ni(a:Tv t)(b:a9 t x)(v:t.val x≠0):t.aa (U x)≠0:=λe=>v (by rw[lM,e];split<;>rfl)
open Classical in
theorem oq(i:Tv t)(hp:kC t p):x∈t.fl p↔a9 t x/\t.val x= -1/\p (U x):=by
 unfold T.fl;rw[cW];constructor
 .intro l;refine az l λv m=>aU m λo j=>?_;clear m;try clear l
  subst j;have h:=dQ (dU.mp o).2;haveI k:=hp v h;haveI a:=k.1;haveI b:=k.2.1;haveI c:=k.2.2;exact⟨(xf i a b c).1,(xf i a b c).2,by rw[sU a b];exact h⟩
 .intro n;refine br n λa b c=>?_;try clear n
  refine br (hp _ c) λd e f=>⟨U x,dU.mpr ⟨cW.mpr ⟨(U x-1).toNat,List.mem_range.mpr ((Int.toNat_lt (Int.sub_nonneg_of_le d)).mpr (Int.lt_of_lt_of_le (Int.sub_lt_self _ (by decide)) e)),by rw[Int.toNat_of_nonneg (Int.sub_nonneg_of_le d),Int.sub_add_cancel]⟩,cO c⟩,?_⟩
  exact aU (xf i d e f) λg h=>oI g h b (sU d e)
open Classical in
theorem D4(hp:kC t p):Td (t.fl p):=by
 refine⟨λx g=>?_,?_⟩
 .refine az (cW.mp g) λv c=>aU c λi j=>?_;clear c;subst j;have h:=hp v (dQ (dU.mp i).2)
  exactλe=>by haveI:=sU h.1 h.2.1;rw[e]at this;haveI:=this;rw[<-this]at h;exact absurd h.1 (by decide)
 .refine List.pairwise_map.mpr (List.Pairwise.imp_of_mem (R:=λa b=>a<b) (λ{a b} ha k q=>?_) (List.Pairwise.filter _ (List.pairwise_map.mpr (List.pairwise_lt_range.imp λ{a b} q=>?_))))
  .haveI d:=hp a (dQ (dU.mp ha).2);haveI f:=hp b (dQ (dU.mp k).2);rw[sU d.1 d.2.1,sU f.1 f.2.1];exact q
  .exact Int.add_lt_add_right (g9.mpr q) 1
theorem JT{t:T}(a:t.n<=5):(t.fl p).length<30:=by
 unfold T.fl;rw[b9];refine df (lP ..) ?_;rw[b9,mH];exact df a (by decide)
theorem D3(a:Tv t)(hp:kC t p)(h:Td c)(hm:∀x,x∈c↔a9 t x/\t.val x= -1/\p (U x)):c=t.fl p:=h.yL (D4 hp) λx=>(hm x).trans (oq a hp).symm
theorem JU(n:Tv t)(K:dY t)(hp:kC t p)(fT:kC t p')(f:Cn t N)(C:a9 t x)(u:t.val x=1)(v:x∈t.cl N)(o:∀y∈t.cl N,y≠x->t.val y= -1)(h:∀w,p' w↔w≠U x/\(p w\/∃y∈t.cl N,U y=w)):z∈t.fl p'↔(z∈t.fl p/\z≠-x)\/(z∈t.cl N/\z≠x):=by
 rw[oq n fT,oq n hp];constructor
 .intro g;refine gn λA=>br g λa b c=>?_;obtain⟨q,i⟩:=(h _).mp c;refine A<|Or.elim i (λi=>?_) (λj=>az j λy k=>aU k λl r=>?_)
  .exact .inl ⟨⟨a,b,i⟩,λe=>q (by refine B e ?_;exact B dJ rfl)⟩
  .haveI s:y≠x:=λe=>q (aT r<|aT e rfl);haveI:=oI (K.2 N y f l).1 (o y l s) b r;exact .inr ⟨this▸l,this▸s⟩
 .rintro(⟨⟨a,b,c⟩,d⟩|⟨a,b⟩)
  .refine⟨a,b,(h _).mpr ⟨λe=>?_,.inl c⟩⟩;refine Or.elim (kJ e) (λe=>?_) (λe=>?_)
   .rw[e,u]at b;exact absurd b (by decide)
   .exact d e
  .have m:=o z a b;refine⟨(K.2 N z f a).1,m,(h _).mpr ⟨λe=>?_,.inr ⟨z,a,rfl⟩⟩⟩;refine Or.elim (kJ e) (λe=>?_) (λe=>?_)
   .exact b e
   .exact(K.2 N x f v).2 (aT e a)
theorem Wq(a:Tv t)(K:dY t)(hp:kC t p)(fT:kC t p')(e:t.n<=5)(f:Cn t N)(b:a9 t x)(c:t.val x=1)(d:x∈t.cl N)(g:∀y∈t.cl N,y≠x->t.val y= -1)(h:∀w,p' w↔w≠U x/\(p w\/∃y∈t.cl N,U y=w))(i:p (U x))(hs:Sn t s)(cs:∀z,z∈t.cs s↔z∈t.cl N):zd t (t.fl p) (U x) s (t.fl p'):=by
 haveI j:t.val (-x)= -1:=by rw[kX b.1,c]
 refine⟨hs,D4 fT,JT e,-x,dJ,(oq a hp).mpr (aS b.n j (B dJ i)),λq=>?_,by rw[h_];exact(cs x).mpr d,λz=>?_⟩
 .rw[h_]at q;haveI:=((oq a hp).mp q).2.1;rw[c]at this;exact absurd this (by decide)
 .simp only[h_,cs];exact JU a K hp fT f b c d g h
theorem Wm(wo:Wo W)(b:Tv t)(K:dY t)(hp:kC t p)(fT:kC t p')(c:Cn t N)(d:a9 t x)(e:t.val x=1)(f:x∈t.cl N)(g:∀y∈t.cl N,y≠x->t.val y= -1)(h:∀w,p' w↔w≠U x/\(p w\/∃y∈t.cl N,U y=w))(aB:iz W (t.fl p))(i:iz W (t.cl N)):iz W (t.fl p'):=
 aB.res wo (p:=-x) i λz a=>(JU b K hp fT c d e f g h).mpr (by simp only[h_]at a;exact a)
noncomputable def ku(ps:List (Int×Int)):List (Int×Option Int):=ps.map λp=>(p.1,some p.2)
theorem PR:gV (ku ps)=gW ps:=by unfold gV ku gW;refine fk.trans ?_;rfl
def Ac(t:T)(a:Int)(pr:List (Int×Option Int))(p:Int->Prop):Prop:=Q3
 (kC t p)
 (t.pf=true->∃s0 ps,t.st a=some s0/\Sn t s0/\Td (t.cs s0)/\pr=ku ps/\Rn t (t.cs s0) ps (t.fl p))
 (∀W,Wo W->gO W t->iz W (t.fl p))
theorem Ac.mD(j:Tv t)(K:dY t)(P:t.pf=true->ek t)(i:Cn t g)(hf:∀x∈t.cl g,t.val x= -1):Ac t g [] λw=>∃y∈t.cl g,U y=w:=by
 have ap:kC t λw=>∃y∈t.cl g,U y=w:=λw n=>az n λy o=>aU o λm e=>by
  have l:=(K.2 g y i m).1;exact⟨e▸l.U.1,e▸l.U.2,e▸ni j l (by refine B ((hf y m)) ?_;decide)⟩
 haveI me:∀x,x∈t.cl g↔a9 t x/\t.val x= -1/\∃y∈t.cl g,U y=U x:=λx=>
  ⟨λh=>⟨(K.2 g x i h).1,hf x h,x,h,rfl⟩,λp=>br p λa b q=>az q λy r=>aU r λc d=>(oI (K.2 g y i c).1 (hf y c) b d)▸c⟩
 refine⟨ap,λf=>?_,λW wo aB h hw=>?_⟩
 .refine gn λu=>az ((P f).3 g i) λs k=>eI k λs1 s2 s3 s4=>u<|(cE s ([]) (e_ s1 s2 s3 rfl ?_));exact B ((D3 j ap s3 λx=>(s4 x).trans (me x)))<|.nil _
 .exact az (aB.1 g i h hw) λx v=>aU v λz A=>⟨x,(oq j ap).mpr ((me x).mp z),A⟩
theorem Ac.next(d:Tv t)(K:dY t)(P:t.pf=true->ek t)(C:Ac t l pr p)(fT:kC t p')(m:t.n<=5)(a:Cn t N)(e:a9 t x)(g:t.val x=1)(i:x∈t.cl N)(j:∀y∈t.cl N,y≠x->t.val y= -1)(h:∀w,p' w↔w≠U x/\(p w\/∃y∈t.cl N,U y=w))(o:p (U x)):Ac t l (pr++[(U x,t.st N)]) p':=by
 refine⟨fT,λf=>?_,λW wo aB=>Wm wo d K C.1 fT a e g i j h (C.3 W wo aB) (aB.1 N a)⟩;refine gn λq=>cF (C.2 f) λs0 ps k=>eY k λr u v b z=>?_;clear k;subst b;refine az ((P f).3 N a) λs c=>eI c λs1 s2 Y s4=>q<|(cE s0 (ps++[(U x,s)]) (e_ r u v ?_ (z.tM (Wq d K C.1 fT m a e g i j h o s2 s4))));unfold ku;refine B iJ<|B s1 ?_;rfl
theorem zN(b:List V->List V->H->Prop)
 (step:∀v aY a A,b (v::aY) a A->e A/\∀R:V->H->Prop,(∀w c,b aY (a++[w]) c->R w c)->aB C cN (l.set x v) A R) (bZ:∀a A,b [] a A->e A/\a.length<=bf/\Q a A):∀(ws a:List V) (A:H),b ws a A->
 oD (λv A R=>fA false [x] v l λd=>mK C [] d A R) (λv A R=>fA false [x] v l λd=>aB C cN d A R) e ws a A Q
 |[],a,A,h=>bZ a A h
 |v::ws,a,A,h=>fF ((step v ws a A h).1) (cR _ (aS rfl (λY=>⟨_,rfl,(step v ws a A h).2 _ λw c f=>zN b step bZ ws _ c f⟩) λz=>nt z))
theorem Jl(h:Ev C l A a v)(g:aB C b l A λw A=>R (.aE [v,w]) A):aB C (.aE [a,b]) l A R:=h _ g
def Ru(t:T)(p:Int×Int):Prop:=Q2
 (Sn t p.2)
 (∃y,a9 t y/\U y=p.1/\t.val y=1/\t.ae p.1=0/\t.cs p.2=[y])
theorem Uq.val(u:Uq t J)(x:Int):J.val x=t.val x:=by unfold T.val;exact u.f.2.2.1▸rfl
theorem Ru.gr(g:Gr t J)(r:Ru t p):Ru J p:=az r.2 λy h=>eY h λa b c d e=>⟨(g.2 _ r.1).1,y,by unfold a9 at a⊢;exact B g.1.f.1<|a,b,(g.1.val y).trans c,(congrFun g.1.f.2.2.2.1 _).trans d,(g.2 _ r.1).2.trans e⟩
theorem Gz(M:Mem I t Z A)(b:Bd t)(z:lj t)(ag:cB t)(R:fY t)(K:dY t)(P:t.pf=true->ek t)(e:Pt I t Z p (.list (Zl xs)))(hl:xs.length<64)(hx:∀v∈xs,∃(i:Nat) (y:Int),t.tr[i]? =some y/\U y=v/\t.ae v=0)
 (q:∀af J a us,Z a=none->Mem I J (Z.set a (.list (gW us))) af->Gr t J->(t.pf=true->ek J)->(J.ps.length:Int)+t.rt<=t.ps.length+J.rt->(t.pf=false->us=[])->(t.pf=true->(us.map Prod.fst).Perm xs/\∀p∈us,Ru J p)->us.length<=xs.length->Q (.ref a) af):aA (k+7) .zc [me I,.ref p] A Q:=by
 haveI np:Ev (aA (k+6)) ((aH.set (λY=>none) .X (me I)).set .ox (.ref p)) A (.hV false (.aC (.var .X) .dK)) (.bool (!t.pf)):=w7 M rfl;cases f:t.pf with
 |false=>
  rw[f]at np;refine⟨_,rfl,bL np (λY=>?_) nt⟩
  exactλa ha=>q _ t a [] (M.dP ha) (M.dy (.inl ha)) .gX (λh=>by rw[f]at h;exact nf h) (g8 _) (λY=>rfl) (λh=>by rw[f]at h;exact nf h) (fw _)
 |true=>
  rw[f]at np;refine⟨_,rfl,bL np nf λY=>c7 ?_⟩;have iv:∀v∈xs,In t v:=λv hv=>cF (hx v hv) λi y u=>br u λh1 h2 Y=>aT h2 ((ag.3 i y h1).1.fu);refine iP M (O rfl) bb (aI (O rfl) aX) (Iy M b e hl iv λka w ys nw M hp hs=>?_);have ly:ys.length<64:=B hp.length_eq hl;haveI lb:(Zl ys).length<=bf:=B cj (aV (c9 ly) (bt rfl));refine cR (Zl ys) (cg (M.3 _ _ H.bC) lb lb ?_);refine zN (λaY C A=>∃J us E done,aY=Zl E/\C=gW us/\ys=done++E/\us.map Prod.fst=done/\Mem I J (Z.set w (.list (Zl ys))) A/\Gr t J/\ek J/\J.ps.length+t.rt<=t.ps.length+J.rt/\∀p∈us,Ru J p) ?_ ?_ _ _ _ (fh t ([]) ys ([]) (CF rfl rfl rfl rfl M .gX (P f) (g8 _) λp h=>absurd h gh))
  .intro v aY C A LR;refine gz LR λJ us E done LS=>Hm LS λn G m r M g P' hq hr=>?_;clear LS;try clear LR
   subst G;refine⟨M.3 _ _ H.bC,λRR xm=>?_⟩;cases E with
   |nil=>injection n
   |cons y E=>
    cases n;have hy:=hp.mem_iff.mp (B m (iW _ (bE ..)));refine cF (hx y hy) λi x L=>br L λx1 x2 x3=>?_;haveI f1:=g.1.f.1;haveI f2:=g.1.f.2.1;haveI f4:=g.1.f.2.2.2.1;haveI d1:=g.1.d.1;haveI d2:=g.1.d.2.1;haveI d3:=g.1.d.2.2.1;haveI d4:=g.1.d.2.2.2.1;haveI d5:=g.1.d.2.2.2.2;refine Jl (O rfl) (iP M (O rfl) bb (aI (O rfl) aX) (Rj M (d1 b) (d2 z) (d3 ag) (d4 R) (d5 K) P' (B f2 x1) x2 (aT f4.symm x3) λA t2 s M g2 P2 akb N=>xm _ A (fh t2 (us++[(y,s)]) E (done++[y]) (CF rfl PW (by simp only[m,iX];rfl) (by rw[iJ,r];rfl) M (g.trans g2) P2 (by lia) λp hp=>?_))))
    rcases dT.mp hp with w|w
    .exact(hr p w).gr g2
    .rw[cL.mp w];haveI iy:In t2 y:=by unfold In;exact B g2.1.f.1<|B f1<|iv y hy
     exact az (P2.4 y s iy N) λl W=>iM W λl1 l2 l3 l4 l5 l6=>⟨l5,l,l1,l2,l3,l4,l6⟩
  .intro C A LU;refine gn λkG=>gz LU λJ us E done LV=>Hm LV λn aa0 m r M g P' hq hr=>?_;clear LV;try clear LU
   subst aa0;have ev:E=[]:=by cases E with|nil=>rfl|cons a b=>injection n
   subst ev;rw[fQ]at m;subst m;refine kG ?_;have lu:us.length=ys.length:=by refine aT r ?_;rw[b9]
   refine⟨M.3 _ _ H.bC,by simp only[gW,b9,lu];exact aV (c9 ly) (bt rfl),λa ha=>?_⟩
   have na:=M.dP ha;have aw:a≠w:=λh=>by replace na:=h▸na;replace na:=H.bC▸na;exact ns na
   refine q _ J a us (by rw[H.a6 aw]at na;exact na) ((M.dy (.inl ha)).fD λc o j=>?_) g (λY=>P') hq (λh=>by replace h:=f▸h;refine nt h) (λY=>⟨B r hp,hr⟩) (by refine lu▸B hp.length_eq ?_;exact dR _)
   rcases cY (c=a)with h|h
   .clear ha na aw;subst h;rw[H.bC]at j⊢;exact j
   .replace j:=(H.a6 h)▸j;haveI:c≠w:=λh=>by replace j:=h▸j;replace j:=nw▸j;exact nn j
    exact B (H.a6 h)<|B (H.a6 this)<|j
theorem BW(wo:Wo W)(a:cB t)(R:fY t)(K:dY t)(aB:gO W t)(hw:W h):∀(n i:Nat) (x:Int),i<n->t.tr[i]? =some x->t.ae (U x)=0->h x
 |0,i,x,hi,_,_=>absurd hi (Nat.not_lt_zero _)
 |n+1,i,x,hi,b,h0=>by
  refine br (Qi a R b h0) λd m j=>?_;obtain⟨y,f,g⟩:=aB.1 _ d h hw;refine dx (y=x) (λe=>?_) (λe=>?_)
  .exact aT e g
  .obtain⟨k,o⟩:=j y f e;refine br (a.neg (K.2 _ y d f).1 k) λs0 s1 Y=>?_;haveI lt:(t.S (U y)).toNat<i:=by lia
   haveI l:=BW wo a R K aB hw n _ (-y) (j_ lt (Nat.le_of_lt_succ hi)) s1 (Int.le_antisymm (fp (a.b_ (c9 lt) s1 b) (Int.le_of_eq h0)) (a.6 _ _ s1).1);exact absurd l (wo.c h hw y g)
theorem gO.sD(g:Gr t J)(aB:gO W J):gO W t:=yW g.1.f λf1 f2 e f4 h i b f8 j d=>⟨λc a=>by haveI:=aB.1 c (by unfold Cn at a⊢;exact B f8 a);rwa[b]at this,λf s hs=>by haveI:=aB.2 (d.trans f) s (g.2 s hs).1;rwa[(g.2 s hs).2]at this⟩
theorem Uq.fl(u:Uq t J):J.fl p=t.fl p:=by refine gz u λY Y Y Y a=>?_;try clear u;subst a;rfl
theorem Rn.gr(g:Gr t J)(h:Rn t c ps a):Rn J c ps a:=h.of g.2
theorem Ac.gr(g:Gr t J)(C:Ac t b pr p):Ac J b pr p:=by
 refine yW g.1.f λf1 f2 d f4 o q r f8 h i=>⟨λv j=>by refine f1▸B d ?_;exact C.1 v j,λf=>?_,λW wo aB=>B g.1.fl (C.3 W wo (aB.sD g))⟩
 refine cF (C.2 (aT i f)) λs0 ps a=>eY a λk c l m n=>?_;haveI e:=(g.2 s0 c).2;exact(cE s0 ps (e_ ((congrFun h b).trans k) ((g.2 s0 c).1) (B e l) m (by rw[e,g.1.fl];exact n.gr g)))
theorem Rn.bU(f:Tv t)(k:t.n<=5):∀{us:List (Int×Int)} {p:Int->Prop},kC t p->(us.map Prod.fst).Nodup->(∀u∈us,Ru t u/\p u.1)->Rn t (t.fl p) us (t.fl λw=>p w/\w∉us.map Prod.fst)
 |[],p,hp,_,_=>by
  haveI:(λw=>p w/\w∉([]:List (Int×Int)).map Prod.fst)=p:=funext λw=>propext ⟨And.left,λh=>⟨h,λq=>gh q⟩⟩;exact B this (.nil _)
 |(v,s)::us,p,hp,nd,hu=>by
  refine gn λm=>?_;obtain⟨o,r⟩:=jb.mp nd;obtain⟨⟨sn,y,l,g,i,L0,cs⟩,z⟩:=hu (v,s) (bE ..);refine m ?_;haveI fT:kC t λw=>p w/\w≠v:=λw hw=>hp w hw.1;haveI A:t.val (-y)= -1:=by rw[kX l.1,i]
  haveI st:zd t (t.fl p) v s (t.fl λw=>p w/\w≠v):=by
   refine⟨sn,D4 fT,JT k,-y,dJ.trans g,(oq f hp).mpr (aS l.n A (by simp only[dJ,g];exact z)),λq=>?_,by simp only[cs,h_];exact jo _,λx=>?_⟩
   .rw[h_]at q;haveI:=((oq f hp).mp q).2.1;rw[i]at this;exact absurd this (by decide)
   .rw[oq f fT,oq f hp,cs,h_,cL];constructor
    .intro j;exact eI j λa b c d=>.inl ⟨aS a b c,λe=>d (by simp only[e,dJ,g])⟩
    .rintro(⟨⟨a,b,c⟩,d⟩|⟨a,b⟩)
     .refine cg a b c λe=>?_;refine Or.elim (kJ (e.trans g.symm)) (λe=>?_) (λe=>?_)
      .rw[e,i]at b;exact absurd b (by decide)
      .exact d e
     .exact absurd a b
  haveI ih:=Rn.bU f k fT r λu h=>aS ((hu u (cP _ h)).1) ((hu u (cP _ h)).2) λe=>o (aT e (cW.mpr ⟨u,h,rfl⟩));haveI:(λw=>(p w/\w≠v)/\w∉us.map Prod.fst)=λw=>p w/\w∉((v,s)::us).map Prod.fst:=funext λw=>propext ⟨λC=>aU C λE c=>aU E λa b=>⟨a,λq=>(dW.mp q).elim b c⟩,λG=>aU G λa b=>⟨⟨a,λe=>b (B e (bE ..))⟩,λq=>b (cP _ q)⟩⟩;rw[this]at ih;exact .cons _ _ _ _ _ _ st ih
theorem Rn.c8(h:Rn t c ps b)(g:Rn t b f i):Rn t c (ps++f) i:=by
 induction h with
 |nil c=>exact g
 |cons c d e v s ps a _ ih=>exact .cons _ _ _ _ _ _ a (ih g)
theorem Ac.jU(i:Tv t)(re:∀W,Wo W->gO W t->∀h,W h->∀x,a9 t x->t.val x= -1->t.ae (U x)=0->h (-x))(m:t.n<=5)(C:Ac t o pr p)(h0:t.pf=false->us=[])(r:t.pf=true->(us.map Prod.fst).Perm bU/\∀u∈us,Ru t u)(nd:bU.Nodup)(hr:∀v,v∈bU↔p v/\t.ae v=0)(h:∀w,p' w↔p w/\t.ae w≠0):Ac t o (pr++ku us) p':=by
 have fT:kC t p':=λv s=>C.1 v ((h v).mp s).1;refine⟨fT,λf=>?_,λW wo aB w hw=>?_⟩
 .refine cF (C.2 f) λs0 ps k=>eY k λy z A j E=>?_;clear k;subst j;obtain⟨d,G⟩:=r f;haveI g:=Rn.bU i m C.1 (d.nodup_iff.mpr nd) λu hu=>⟨G u hu,((hr _).mp (d.mem_iff.mp (cW.mpr ⟨u,hu,rfl⟩))).1⟩;haveI:=funext λw=>propext ((⟨λI=>aU I λa b=>⟨a,λe=>b (d.mem_iff.mpr ((hr w).mpr ⟨a,e⟩))⟩,λJ=>aU J λa b=>⟨a,λq=>b ((hr w).mp (d.mem_iff.mp q)).2⟩⟩:_↔_).trans (h w).symm);rw[this]at g;refine cE s0 (ps++us) (e_ y z A ?_ (E.c8 g));exact aT iJ rfl
 .refine gn λL=>?_;obtain⟨x,M,l⟩:=C.3 W wo aB w hw;refine br ((oq i C.1).mp M) λa b c=>L<|⟨x,(oq i fT).mpr (aS a b ((h _).mpr ⟨c,λe=>?_⟩)),l⟩;exact wo.c w hw x l (re W wo aB w hw x a b e)
theorem Ac.bU(c:cB t)(R:fY t)(K:dY t)(d:t.n<=5)(C:Ac t f pr p){bU:List Int}(h0:t.pf=false->us=[])(g:t.pf=true->(us.map Prod.fst).Perm bU/\∀u∈us,Ru t u)(nd:bU.Nodup)(hr:∀v,v∈bU↔p v/\t.ae v=0)(h:∀w,p' w↔p w/\t.ae w≠0):Ac t f (pr++ku us) p':=
 C.jU c.tv (λW wo aB i hw x a b e=>BW wo c R K aB hw _ _ (-x) (k5 _) (c.neg a b).2.1 (B dJ e)) d h0 g nd hr h
noncomputable def T.nt(t:T)(sn:Int->Bool)(f:Int->Int)(s:Int)(h:List Int)(p:Int->Int):T:={t with sn:=sn,ac:=f,hs:=s,hp:=h,pl:=p}
def Nt(t J:T):Prop:=Q3
 (∃sn f s h p,J=t.nt sn f s h p)
 (Hp J)
 (∀x,0<=J.pl x↔0<=t.pl x)
theorem Nt.gX(h:Hp t):Nt t t:=⟨(mM t.sn t.ac t.hs t.hp t.pl (by clear h;cases t;rfl)),h,λY=>Iff.rfl⟩
theorem Nt.trans(a:Nt t t1)(b:Nt t1 e):Nt t e:=by
 refine jD a.1 λsn f s h p c=>?_;subst c;refine jD b.1 λjV g i j p' d=>?_;subst d;exact⟨mM jV g i j p' rfl,b.2,λx=>(b.3 x).trans (a.3 x)⟩
theorem Nt.sn{sn:Int->Bool}(h:Hp t):Nt t (t.jV sn):=⟨mM sn t.ac t.hs t.hp t.pl rfl,⟨h.1,h.2,h.3,h.4⟩,λY=>Iff.rfl⟩
theorem Nt.Ul(n:t.n<=5)(R:y8 t f s h p):Nt t (t.hr f s h p):=⟨mM t.sn f s h p rfl,⟨n,R.1.1,R.2,R.3⟩,R.1.2⟩
theorem Nt.f(a:Nt t J):J.n=t.n/\J.tr=t.tr/\J.aa=t.aa/\J.ae=t.ae/\J.S=t.S/\J.R=t.R/\J.cl=t.cl/\J.m=t.m/\J.st=t.st/\J.pf=t.pf/\J.aK=t.aK:=by
 refine jD a.1 λY Y Y Y Y b=>?_;subst b;exact qQ rfl rfl rfl rfl rfl rfl rfl rfl rfl rfl rfl
theorem Nt.d(a:Nt t J):(Bd t->Bd J)/\(lj t->lj J)/\(cB t->cB J)/\(fY t->fY J)/\(dY t->dY J)/\(ek t->ek J):=by
 refine jD a.1 λY Y Y Y Y c=>?_;subst c;exact ee (λb=>⟨b.1,b.2,b.3,b.4,b.5,b.6⟩) (λb=>⟨b.1,b.2,b.3⟩) (λb=>⟨b.1,b.2,b.3,b.4,b.5,b.6⟩) (λb=>⟨b.1⟩) (λb=>⟨b.1,b.2⟩) λb=>⟨b.1,b.2,b.3,b.4,b.5,b.6,b.7,b.8⟩
noncomputable def T.nw(t:T)(a:Int)(x:Int):Bool:=decide (U x≠a)&& !t.sn (U x)
noncomputable def T.lo(t:T)(x:Int):Bool:=decide (t.ae (U x)≠0)&&decide (t.ae (U x)≠t.aK.length)
noncomputable def T.hi(t:T)(x:Int):Bool:=decide (t.ae (U x)≠0)&&decide (t.ae (U x)=t.aK.length)
noncomputable def T.rz(t:T)(x:Int):Bool:=decide (t.ae (U x)=0)
def t7(t J:T)(a:Int)(xs:List Int):Prop:=Q2
 (Nt t J)
 (∀v,J.sn v=true↔t.sn v=true\/∃x∈xs,t.nw a x=true/\U x=v)
noncomputable def H.eM(Z:H)(a b:Nat)(xs ys:List Int):H:=(Z.set a (.list (Zl xs))).set b (.list (Zl ys))
theorem H.Ci(h:a≠b):H.eM Z a b xs ys a=some (.list (Zl xs)):=by simp only[H.eM,H.a6 h,H.bC]
theorem H.Cj:H.eM Z a b xs ys b=some (.list (Zl ys)):=H.bC
theorem H.Rf(h:a≠b):(H.eM Z a b xs ys).set a (.list (Zl zs))=H.eM Z a b zs ys:=by
 funext c;unfold H.eM H.set
 rcases cY (c=a)with e|e
 .rw[bA e,bx λq=>h (e.symm.trans q),bA e]
 .rw[bx e]
  split<;>first|rfl|exact bx e|(rw[bx e])
theorem H.Rg:(H.eM Z a b xs ys).set b (.list (Zl zs))=H.eM Z a b xs zs:=by
 funext c;unfold H.eM H.set
 split<;>rfl
def RG(t:T)(I:bT->Nat)(Z:H)(a b:Nat)(N c:Int)(aY bU:List Int)(l:aH)(A:H)(d:bT->Nat)(J:T)(done:List Int):Prop:=Q8
 (ph I d)
 (Mem d J (H.eM Z a b (aY++(done.filter (t.nw c)).filter t.lo) (bU++((done.filter (t.nw c)).filter t.rz).map U)) A)
 (t7 t J c done)
 (l .X=some (me I))
 (l .qG=some (.int c))
 (l .aY=some (.ref a))
 (l .bU=some (.ref b))
 (l .count=some (.int (((done.filter (t.nw c)).filter t.hi).length)))
theorem Pb(xN:a≠b)(M:Mem I t (H.eM Z a b aY bU) A)(bd:Bd t)(K:dY t)(hp:Hp t)(m:Cn t N)(lr:aY.length<=20)(lo:bU.length<=20)
 (q:∀af n J,ph I n->Mem n J (H.eM Z a b (aY++((t.cl N).filter (t.nw i)).filter t.lo) (bU++(((t.cl N).filter (t.nw i)).filter t.rz).map U)) af->t7 t J i (t.cl N)->Q (.int ((((t.cl N).filter (t.nw i)).filter t.hi).length:Nat)) af):
 aA (k+7) .CW [me I,.int N,.int i,.ref a,.ref b] A Q:=by
 refine⟨_,rfl,dG a8 (kR (mc M bd (bY M rfl rfl rfl) (O rfl) m _ ?_))⟩;haveI M0:Mem I t (H.eM Z a b (aY++(([]).filter (t.nw i)).filter t.lo) (bU++((([]).filter (t.nw i)).filter t.rz).map U)) A:=by
  simp only[List.filter_nil,List.filter_nil,List.filter_nil,List.map_nil,fQ,fQ];exact M
 refine nF (λE l A=>∃n J done,t.cl N=done++E/\RG t I Z a b N i aY bU l A n J done) (M.1 _ _ (js m)) (bd.nX m.1 m.2) ⟨I,t,[],rfl,λY Y=>rfl,M0,⟨.gX hp,λv=>⟨.inl,λh=>h.elim id λW6=>az W6 λx W7=>aU W7 λh Y=>absurd h gh⟩⟩,rfl,rfl,rfl,rfl,rfl⟩ ?_ ?_ ?_
 .intro E l A aa9;refine d7 aa9 λn J done aa'=>aU aa' λe ak=>?_;haveI f:=ak.3.1.f;haveI:=ak.2.1 (.c N) _ (js (by unfold Cn at m⊢;exact B f.2.2.2.2.2.2.2.1<|m))
  rw[f.2.2.2.2.2.2.1,ak.1 (.c N) (bT.ne rfl)]at this;exact this
 .intro x E l A aa_ P p1 Y Y;refine gn λkG=>d7 aa_ λn J done aba=>aU aba λe u=>?_;haveI o:=u.1;haveI M:=u.2;haveI r:=u.3;haveI G:=u.4;haveI L:=u.5;haveI W:=u.6;haveI l4:=u.7;haveI l5:=u.8;refine o_ r.1.f λf1 f2 f3 f4 f5 f6 f7 f8 f9 mf jR=>kG ?_;have jP:=r.1.d.1 bd;have t5:=jP.1;have xc:x∈t.cl N:=B e (iW _ (bE ..));haveI lx:=(K.2 N x m xc).1;have ix:In J (U x):=by unfold In;exact B f1<|lx.fu
  have e':t.cl N=(done++[x])++E:=by simp only[e,iX];rfl
  have oQ:=G.trans (aP (λp=>some (V.ref p)) (o (.ob .aO) λh=>nomatch h).symm)
  haveI Vh:∀y∈done,U y≠U x:=λy hy h=>by
   haveI nd:=K.1 N m;rw[e]at nd;haveI yc:y∈t.cl N:=B e (lO _ hy);refine Or.elim (kJ h) (λw=>?_) (λw=>?_)
   .exact(jB.mp nd).2.2 y hy x (bE ..) w
   .exact(K.2 N x m xc).2 (aT w yc)
  haveI ail:J.sn (U x)=t.sn (U x):=by
   cases h:t.sn (U x)with
   |true=>exact(r.2 _).mpr (.inl h)
   |false=>
    cases h':J.sn (U x)with
    |false=>rfl
    |true=>exact((r.2 _).mp h').elim (λz=>by replace z:=h▸z;exact nf z) λW8=>az W8 λy W9=>br W9 λy1 Y y2=>absurd y2 (Vh y y1)
  haveI dl:(done.filter (t.nw i)).length<=5:=by
   haveI:=bd.5 N m.1 m.2;rw[e,cx]at this;exact aV (lP ..) (aV (jK _ _) this)
  haveI FG:Ev (aA (k+6)) ((l.set .lit (.int x)).set .var (.int (U x))) A (.or [.eq false (.var .var) (.var .qG),.aQ (.aC (.var .X) .iF) (.var .var)]) (.bool (!t.nw i x)):=by
   haveI h1:Ev (aA (k+6)) ((l.set .lit (.int x)).set .var (.int (U x))) A (.eq false (.var .var) (.var .qG)) (.bool (decide (U x=i) !=false)):=di (O rfl) (O ‹_›) rfl;haveI h2:Ev (aA (k+6)) ((l.set .lit (.int x)).set .var (.int (U x))) A (.aQ (.aC (.var .X) .iF) (.var .var)) (.bool (t.sn (U x))):=aT ail ((eF M (bY M ‹_› rfl rfl) (O rfl) rfl ‹_› rfl ‹_›));haveI:=mU (kj h1 λY=>kj h2 λY=>w8);haveI e0:((decide (U x=i) !=false)||(t.sn (U x)||false))= !t.nw i x:=by
    unfold T.nw;rcases cY (U x=i)with w|w
    .rw[cO w,dp (not_not_intro w)];rfl
    .rw[dp w,cO w];cases t.sn (U x)<;>rfl
   rw[e0]at this;exact this
  refine dG (fO (O rfl) rfl) (bL FG (λz=>?_) λz=>c7 ?_)
  .have nx:t.nw i x=false:=by cases h:t.nw i x with|false=>rfl|true=>replace z:=h▸z;exact nf z
   refine GH (p1 _ _ ?_).2;have ef:(done++[x]).filter (t.nw i)=done.filter (t.nw i):=by simp only[List.filter_append,List.filter_cons_of_neg (nx.symm▸gH),List.filter_nil,fQ]
   exact⟨n,J,done++[x],e',o,ef.symm▸M,⟨r.1,λv=>(r.2 v).trans (or_congr Iff.rfl ⟨λ⟨y,a,b⟩=>⟨y,lO _ a,b⟩,λ⟨y,a,b,c⟩=>⟨y,(dT.mp a).resolve_right λh=>(by replace b:=(cL.mp h)▸b;replace b:=nx▸b;exact nf b),b,c⟩⟩)⟩,G,L,W,l4,ef.symm▸l5⟩
  .have nx:t.nw i x=true:=by cases h:t.nw i x with|true=>rfl|false=>replace z:=h▸z;exact nt z
   haveI ef:(done++[x]).filter (t.nw i)=done.filter (t.nw i)++[x]:=by simp only[List.filter_append,List.filter_cons_of_pos nx,List.filter_nil]
   have fl:∀g:Int->Bool,((done++[x]).filter (t.nw i)).filter g=(done.filter (t.nw i)).filter g++(if g x then[x]else[]):=λg=>by simp only[ef,List.filter_append,List.filter_cons,List.filter_nil]
   have Ga:∀v,aW J.sn (U x) true v=true↔t.sn v=true\/∃y∈done++[x],t.nw i y=true/\U y=v:=λv=>by
    refine dx (v=U x) (λw=>?_) (λw=>?_)
    .rw[w,cU];exact⟨λY=>.inr ⟨x,iW _ (jo x),nx,rfl⟩,λY=>rfl⟩
    .rw[b7 w,r.2 v];exact or_congr Iff.rfl ⟨λ⟨y,a,b⟩=>⟨y,lO _ a,b⟩,λ⟨y,a,b,c⟩=>⟨y,(dT.mp a).resolve_right λh=>w (by refine aT c ?_;exact B (cL.mp h) rfl),b,c⟩⟩
   refine kU M gU (bY M ‹_› rfl rfl) (O rfl:Ev _ _ _ _ (.int (U x))) rfl t5 ix wI λA M=>?_;have n1:Nt J (J.jV (aW J.sn (U x) true)):=.sn r.1.2;haveI eL:J.ae (U x)=t.ae (U x):=congrFun f4 _;haveI el:Ev (aA (k+6)) ((l.set .lit (.int x)).set .var (.int (U x))) A (.eq false (.aQ (.aC (.var .X) .iR) (.var .var)) (.int 0)) (.bool (t.rz x)):=by
    haveI:=di (ne:=false) (j:=0) (eF M (bY M ‹_› rfl rfl) (O rfl) rfl ‹_› rfl ‹_›:Ev (aA (k+6)) ((l.set .lit (.int x)).set .var (.int (U x))) A (.aQ (.aC (.var .X) .iR) (.var .var)) (.int (J.ae (U x)))) a8 rfl;rw[eL,show(decide (t.ae (U x)=0) !=false)=t.rz x by unfold T.rz;cases decide (t.ae (U x)=0)<;>rfl]at this
    exact this
   have JW:∀g:Int->Bool,((done.filter (t.nw i)).filter g).length<=5:=λg=>aV (lP ..) dl;refine bL el (λw=>?_) λw=>c7 ?_
   .have h0:=dQ w;have FN:t.lo x=false:=by unfold T.lo;refine B (dp (not_not_intro h0)) ?_;rfl
    have adS:t.hi x=false:=by unfold T.hi;refine B (dp (not_not_intro h0)) ?_;rfl
    refine m4 M (O ‹_›) (O rfl) H.Cj (by simp only[cj,cx,b9];exact df (Nat.add_le_add lo (JW _)) (iV (bt rfl))) λA M=>GH (p1 _ _ ?_).2
    rw[j5,H.Rg]at M;refine⟨n,_,done++[x],e',o,?_,⟨r.1.trans n1,Ga⟩,G,L,W,l4,?_⟩
    .simp only[fl,fl,FN,w,bx gH,bA rfl,fQ,iJ,<-iX];exact M
    .rw[fl,adS,bx gH,fQ];exact l5
   .have GB:t.rz x=false:=by cases h:t.rz x with|false=>rfl|true=>replace w:=h▸w;exact nt w
    have h0:=gZ GB;have ih:=ix;refine eX M (bY M ‹_› rfl rfl) fB (aI (O rfl) aX) (Um M n1.2 ih λeO A f s h p o2 M R=>?_);have n2:=n1.trans (.Ul t5 R);haveI aki:=oQ.trans (aP (λp=>some (V.ref p)) (o2 (.ob .aO) λh=>nomatch h).symm)
    have o3:ph I eO:=λaD h=>(o2 aD h).trans (o aD h);haveI b2:=n2.d.1 jP;haveI ed:Ev (aA (k+6)) ((l.set .lit (.int x)).set .var (.int (U x))) A (.eq false (.aQ (.aC (.var .X) .iR) (.var .var)) (.aZ (.var .X) .aO .pD [])) (.bool (t.hi x)):=by
     haveI:=di (ne:=false) (eF M (bY M ‹_› rfl rfl) (O rfl) rfl ‹_› rfl ‹_›:Ev (aA (k+6)) ((l.set .lit (.int x)).set .var (.int (U x))) A (.aQ (.aC (.var .X) .iR) (.var .var)) (.int (J.ae (U x)))) (gA M (O ‹_›) bb aX (wR M b2):Ev (aA (k+6)) ((l.set .lit (.int x)).set .var (.int (U x))) A (.aZ (.var .X) .aO .pD []) (.int (((J.jV (aW J.sn (U x) true)).hr f s h p).aK.length))) rfl;rw[show(decide (J.ae (U x)=((((J.jV (aW J.sn (U x) true)).hr f s h p).aK.length))) !=false)=t.hi x by
      unfold T.hi;refine B (cO h0)<|B eL<|B jR ?_;cases decide (t.ae (U x)=t.aK.length)<;>rfl]at this
     exact this
    refine bL ed (λy=>?_) λy=>?_
    .have FN:t.lo x=false:=by
      haveI:=(jC _ _▸y).2;unfold T.lo;exact B (dp (not_not_intro (dQ this))) (Bool.and_false _)
     refine dG (dz (O ‹_›) a8 rfl trivial) (c_ (p1 _ _ ?_).1);refine⟨eO,_,done++[x],e',o3,?_,⟨r.1.trans n2,Ga⟩,G,L,W,l4,?_⟩
     .rw[fl,fl,FN,GB,bx gH,fQ,fQ];exact M
     .rw[fl,y,bA rfl,cx];rfl
    .haveI afj:t.lo x=true:=by
      unfold T.lo;unfold T.hi at y;simp only[cO h0,Bool.true_and]at y⊢;exact cO (gZ y)
     refine m4 M (O ‹_›) (O rfl) (H.Ci xN) (by refine B cj ?_;refine B cx ?_;exact df (Nat.add_le_add lr (JW _)) (iV (bt rfl))) λA M=>c_ (p1 _ _ ?_).1
     rw[j5,H.Rf xN]at M;refine⟨eO,_,done++[x],e',o3,?_,⟨r.1.trans n2,Ga⟩,G,L,W,l4,?_⟩
     .rw[fl,fl,afj,GB,bx gH,bA rfl,fQ,<-iX];exact M
     .rw[fl,y,bx gH,fQ];exact l5
 .intro l A abb;refine gn λkG=>d7 abb λn J done LY=>aU LY λe C=>?_;clear LY;haveI o:=C.1;haveI M:=C.2;haveI r:=C.3;haveI G:=C.4;haveI L:=C.5;haveI W:=C.6;haveI l4:=C.7;haveI l5:=C.8;rw[fQ]at e;subst e;exact kG<|cI (O ‹_›) (q A n J o M r)
def An(t:T)(a:Int)(aY bU done:List Int)(pr:List (Int×Option Int))(gi:Nat)(cT:Int):Prop:=Q9
 (Ac t a pr λw=>t.sn w=true/\w∉done)
 (∀w,t.sn w=true->1<=w/\w<=t.n/\t.aa w≠0)
 (∀x,x∈aY↔a9 t x/\t.val x= -1/\t.sn (U x)=true/\t.ae (U x)≠0/\t.ae (U x)≠t.aK.length)
 (aY.Nodup)
 (∀w,w∈bU↔t.sn w=true/\t.ae w=0)
 (bU.Nodup)
 (∀w∈done,t.sn w=true/\t.ae w=t.aK.length/\cT<t.S w)
 (done.Nodup)
 (∃iH:List Int,iH.Nodup/\(∀w,w∈iH↔t.sn w=true/\w∉done/\t.ae w≠0/\t.ae w=t.aK.length)/\gi=iH.length/\1<=iH.length/\∀w∈iH,t.S w<=cT)
theorem Nt.val(a:Nt t J)(x:Int):J.val x=t.val x:=by unfold T.val;exact a.f.2.2.1▸rfl
theorem Nt.lit(a:Nt t J)(x:Int):a9 J x↔a9 t x:=by unfold a9;rw[a.f.1]
theorem Nt.fl(a:Nt t J):J.fl p=t.fl p:=by refine jD a.1 λY Y Y Y Y b=>?_;subst b;rfl
theorem Nt.cs(a:Nt t J):J.cs=t.cs/\(∀s,Sn J s↔Sn t s):=by refine jD a.1 λY Y Y Y Y b=>?_;subst b;exact⟨rfl,λY=>Iff.rfl⟩
theorem Nt.gr(a:Nt t J)(h:Rn t c ps b):Rn J c ps b:=h.of λs hs=>⟨(a.cs.2 s).mpr hs,B a.cs.1 rfl⟩
theorem Nt.VJ(a:Nt t J):gO W J->gO W t:=by refine jD a.1 λY Y Y Y Y b=>?_;subst b;exactλaB=>⟨aB.1,aB.2⟩
theorem Ac.nt(a:Nt t J)(C:Ac t c pr p):Ac J c pr p:=by
 refine o_ a.f λf1 f2 d f4 o q r f8 e g s=>⟨λv h=>by refine f1▸B d ?_;exact C.1 v h,λf=>?_,λW wo aB=>B a.fl (C.3 W wo (a.VJ aB))⟩
 exact gn λi=>cF (C.2 (aT g f)) λs0 ps b=>eY b λj k l m n=>i<|(cE s0 ps (e_ ((congrFun e c).trans j) ((a.cs.2 s0).mpr k) (B a.cs.1 l) m (by rw[a.cs.1,a.fl];exact a.gr n)))
theorem rP{c d:Type}{f:c->d}{l:List c}(h:l.Nodup)(g:∀x∈l,∀y∈l,f x=f y->x=y):(l.map f).Nodup:=
 List.pairwise_map.mpr (List.Pairwise.imp_of_mem (λ{a b} ha i n e=>n (g a ha b i e)) h)
theorem ND{t:T}:t.hi x=true↔t.ae (U x)≠0/\t.ae (U x)=t.aK.length:=by unfold T.hi;simp only[jC,k6,k6]
theorem afk{t:T}:t.lo x=true↔t.ae (U x)≠0/\t.ae (U x)≠t.aK.length:=by unfold T.lo;simp only[jC,k6,k6]
theorem Qm{t:T}:t.rz x=true↔t.ae (U x)=0:=k6
theorem pT{t:T}:t.nw a x=true↔U x≠a/\t.sn (U x)=false:=by unfold T.nw;rw[jC,k6,lT]
theorem An.lists(W:cB t)(K:dY t)(h:Cn t N)(hf:∀x∈t.cl N,U x≠i->t.val x= -1)(r:t7 t J i (t.cl N))
 (rs:∀x,x∈aY↔a9 t x/\t.val x= -1/\t.sn (U x)=true/\t.ae (U x)≠0/\t.ae (U x)≠t.aK.length) (v:aY.Nodup) (o:∀w,w∈bU↔t.sn w=true/\t.ae w=0) (z:bU.Nodup):
 (∀x,x∈aY++((t.cl N).filter (t.nw i)).filter t.lo↔a9 J x/\J.val x= -1/\J.sn (U x)=true/\J.ae (U x)≠0/\J.ae (U x)≠J.aK.length)/\(aY++((t.cl N).filter (t.nw i)).filter t.lo).Nodup/\
 (∀w,w∈bU++(((t.cl N).filter (t.nw i)).filter t.rz).map U↔J.sn w=true/\J.ae w=0)/\(bU++(((t.cl N).filter (t.nw i)).filter t.rz).map U).Nodup:=by
 haveI f4:=r.1.f.2.2.2.1;haveI A:=r.1.f.2.2.2.2.2.2.2.2.2.2;haveI C:∀x∈t.cl N,∀y∈t.cl N,U x=U y->x=y:=λx g y j e=>(kJ e).resolve_right λq=>(K.2 N y h j).2 (q▸g);haveI ln:=λx=>r.1.lit x;refine cg (λx=>?_) ?_ (λw=>?_) ?_
 .rw[dT,dU,dU,rs,afk,pT,ln,r.1.val,r.2,f4,A];constructor
  .rintro(⟨a,b,c,d⟩|⟨⟨a,b,c⟩,d⟩)
   .exact⟨a,b,.inl c,d⟩
   .exact⟨(K.2 N x h a).1,hf x a b,.inr ⟨x,a,pT.mpr ⟨b,c⟩,rfl⟩,d⟩
  .intro k;refine eI k λa b c d=>Or.elim c (λc=>?_) (λl=>az l λy m=>br m λn E G=>?_)
   .exact .inl (cg a b c d)
   .haveI:=pT.mp E;haveI e:=oI (K.2 N y h n).1 (hf y n this.1) b G;exact .inr ⟨⟨aT e n,e▸this⟩,d⟩
 .refine jB.mpr ⟨v,((K.1 N h).filter _).filter _,λx g y j e=>?_⟩;have:=pT.mp (dU.mp (dU.mp j).1).2;replace this:=e.symm▸this;replace this:=(((rs x).mp g).2.2.1)▸this;cases this.2
 .rw[dT,cW,o,r.2,f4];constructor
  .rintro(⟨a,b⟩|⟨x,g,rfl⟩)
   .exact⟨.inl a,b⟩
   .haveI p:=dU.mp g;haveI I:=p.1;haveI L:=p.2;haveI s:=dU.mp I;haveI M:=s.1;haveI P:=s.2;exact⟨.inr ⟨x,M,P,rfl⟩,Qm.mp L⟩
  .rintro⟨a|⟨x,Q,R,rfl⟩,b⟩
   .exact .inl ⟨a,b⟩
   .exact .inr ⟨x,dU.mpr ⟨dU.mpr ⟨Q,R⟩,Qm.mpr b⟩,rfl⟩
 .refine jB.mpr ⟨z,rP (((K.1 N h).filter _).filter _) λx g y j e=>C x (dU.mp (dU.mp g).1).1 y (dU.mp (dU.mp j).1).1 e,λw hw u hu e=>?_⟩;obtain⟨x,g,rfl⟩:=cW.mp hu;haveI:=pT.mp (dU.mp (dU.mp g).1).2;replace this:=e.symm▸this;replace this:=(((o w).mp hw).1)▸this;cases this.2
theorem An.iH(G:cB t)(K:dY t)(k:Cn t N)(r:t7 t J l (t.cl N)):((((t.cl N).filter (t.nw l)).filter t.hi).map U).Nodup/\∀w,w∈((((t.cl N).filter (t.nw l)).filter t.hi).map U)↔(J.sn w=true/\¬t.sn w=true)/\t.ae w≠0/\t.ae w=t.aK.length:=by
 haveI u:∀x∈t.cl N,∀y∈t.cl N,U x=U y->x=y:=λx d y g e=>(kJ e).resolve_right λq=>(K.2 N y k g).2 (aT q d);refine⟨rP (((K.1 N k).filter _).filter _) λx d y g e=>u x (dU.mp (dU.mp d).1).1 y (dU.mp (dU.mp g).1).1 e,λw=>?_⟩;rw[cW,r.2];constructor
 .intro m;refine az m λx n=>aU n λd h=>?_;clear n;try clear m
  subst h;have f:=dU.mp d;haveI v:=f.1;haveI z:=f.2;have f:=dU.mp v;haveI A:=f.1;haveI o:=f.2;exact⟨⟨.inr ⟨x,A,o,rfl⟩,λq=>by replace q:=((pT.mp o).2)▸q;exact nf q⟩,ND.mp z⟩
 .intro p;refine aU p λi c=>?_;try clear p
  obtain⟨a,b⟩:=i;refine az (a.resolve_left b) λx s=>br s λC E j=>?_;clear s;subst j;exact⟨x,dU.mpr ⟨dU.mpr ⟨C,E⟩,ND.mpr c⟩,rfl⟩
theorem cB.inj(c:cB t){v w:Int}(e:In t v)(hw:In t w)(f:t.aa v≠0)(g:t.aa w≠0)(h:t.S v=t.S w):v=w:=by
 refine az (c.v e f) λx d=>br d λa i Y=>?_;clear d;refine az (c.v hw g) λy b=>br b λj k Y=>?_;replace a:=h▸a;replace a:=j▸a;injection a with a;subst a;exact i.symm.trans k
theorem An.mD(b:cB t)(K:dY t)(P:t.pf=true->ek t)(c:Cn t a)(hf:∀x∈t.cl a,t.val x= -1)(hs:∀w,t.sn w=false)(r:t7 t J 0 (t.cl a))(s:∃x∈t.cl a,t.ae (U x)=t.aK.length)(Q:t.aK.length≠0):
 An J a ([]++((t.cl a).filter (t.nw 0)).filter t.lo) ([]++(((t.cl a).filter (t.nw 0)).filter t.rz).map U) [] [] (((t.cl a).filter (t.nw 0)).filter t.hi).length ((t.tr.length:Int)-1):=by
 haveI f1:=r.1.f.1;haveI j:=r.1.f.2.2.1;haveI f4:=r.1.f.2.2.2.1;have u:=r.1.f.2.2.2.2.1;haveI z:=r.1.f.2.2.2.2.2.2.2.2.2.2;have nf:∀{w},¬t.sn w=true:=λ{w} h=>by replace h:=(hs w)▸h;exact nf h
 refine gn λg=>eI (An.lists b K (bU:=[]) c (λx A Y=>hf x A) r (λx=>⟨λh=>absurd h gh,λh=>absurd h.2.2.1 nf⟩) .nil (λw=>⟨λh=>(nomatch h),λh=>absurd h.1 nf⟩) .nil) λa1 a2 C E=>?_
 obtain⟨b1,b2⟩:=An.iH b K c r;refine g ?_;have sn:=λw=>(r.2 w).trans ⟨λh=>(h.resolve_left nf).elim λy h=>⟨y,h.1,h.2.2⟩,λG=>az G λy I=>aU I λk L=>.inr ⟨y,k,pT.mpr ⟨λe=>by have:=(K.2 a y c k).1.U.1;lia,hs _⟩,L⟩⟩
 have as:∀w,J.sn w=true->1<=w/\w<=J.n/\J.aa w≠0:=λw h=>by
  exact B f1<|B j<|(Ac.mD b.tv K P c hf).1 w ((sn w).mp h)
 refine⟨?_,as,a1,a2,C,E,λw h=>absurd h gh,.nil,_,b1,λw=>?_,(b9 _).symm,?_,λw hw=>?_⟩
 .have:(λw=>J.sn w=true/\w∉([]))=λw=>∃y∈t.cl a,U y=w:=funext λw=>propext ⟨λh=>(sn w).mp h.1,λh=>⟨(sn w).mpr h,λq=>nomatch q⟩⟩
  exact B this ((Ac.mD b.tv K P c hf).nt r.1)
 .rw[b2,f4,z];exact⟨λh=>⟨h.1.1,λq=>(nomatch q),h.2⟩,λh=>⟨⟨h.1,nf⟩,h.2.2⟩⟩
 .refine az s λx i=>aU i λM m=>?_;haveI:=(b2 _).mpr ⟨⟨(sn _).mpr ⟨x,M,rfl⟩,nf⟩,by refine B m ?_;lia,m⟩
  exact List.length_pos_of_mem this
 .have h:=((b2 w).mp hw).1.1;have o:=as w h;haveI d:=o.2.1;haveI e:=o.2.2;refine gn λg=>az (b.v ⟨by lia,aT f1 d⟩ (aT j e)) λl p=>br p λN Y R=>g ?_
  clear p;haveI:=(fR.mp N).1;refine B u ?_;lia
theorem An.next(j:cB t)(K:dY t)(P:t.pf=true->ek t)(hn:t.n<=5){Q N v:Int}{i:Nat}{x:Int}{aY bU done:List Int}{pr:List (Int×Option Int)}{gi:Nat}(aa:An t Q aY bU done pr gi i)(hx:t.tr[i]? =some x)(ex:U x=v)(p:t.sn v=true)(C:v∉done)(lv:t.ae v≠0/\t.ae v=t.aK.length)(c2:gi≠1)
 (s:Cn t N) (xc:x∈t.cl N) (o:∀y∈t.cl N,y≠x->t.val y= -1/\t.S (U y)<i) (r:t7 t J v (t.cl N)):
 An J Q (aY++((t.cl N).filter (t.nw v)).filter t.lo) (bU++(((t.cl N).filter (t.nw v)).filter t.rz).map U) (done++[v]) (pr++[(v,t.st N)]) (gi-1+(((t.cl N).filter (t.nw v)).filter t.hi).length) ((i:Int)-1):=by
 have f1:=r.1.f.1;have R:=r.1.f.2.2.1;have f4:=r.1.f.2.2.2.1;haveI W:=r.1.f.2.2.2.2.1;have X:=r.1.f.2.2.2.2.2.2.2.2.2.2;subst ex;haveI E:=j.3 i x hx;have G:=E.1;have Z:=E.2.1;haveI sx:=E.2.2;have ne:∀y∈t.cl N,U y≠U x->y≠x:=λy Y h e=>h (B e rfl);refine eI (An.lists j K s (λy u h=>(o y u (ne y u h)).1) r aa.3 aa.4 aa.5 aa.6) λa1 a2 a3 a4=>?_;obtain⟨b1,b2⟩:=An.iH j K s r;have as:∀w,J.sn w=true->1<=w/\w<=J.n/\J.aa w≠0:=λw h=>by
  refine B f1<|B R ?_;rcases(r.2 w).mp h with h|⟨y,g,z,rfl⟩
  .exact aa.2 w h
  .have l:=(K.2 N y s g).1;exact(aS l.U.1 l.U.2 (ni j.tv l (by rw[(o y g (ne y g (pT.mp z).1)).1];decide)))
 haveI hp:∀w,(J.sn w=true/\w∉done++[U x])↔w≠U x/\((t.sn w=true/\w∉done)\/∃y∈t.cl N,U y=w):=λw=>by
  rw[r.2,dT,cL];constructor
  .rintro⟨a|⟨y,g,z,y3⟩,b⟩
   .exact⟨λq=>b (.inr q),.inl ⟨a,λq=>b (.inl q)⟩⟩
   .exact⟨λq=>b (.inr q),.inr ⟨y,g,y3⟩⟩
  .rintro⟨a,⟨b,c⟩|⟨y,g,rfl⟩⟩
   .exact⟨.inl b,λq=>q.elim c a⟩
   .refine⟨?_,λq=>q.elim (λq=>?_) a⟩
    .cases h:t.sn (U y)with
     |true=>exact .inl rfl
     |false=>exact .inr ⟨y,g,pT.mpr ⟨a,h⟩,rfl⟩
    .have k:=(aa.7 _ q).2.2;have m:=(o y g (ne y g a)).2;lia
 haveI fT:kC t λw=>J.sn w=true/\w∉done++[U x]:=λw h=>by haveI:=as w h.1;rwa[f1,R]at this
 haveI ac:=(aa.1.next j.tv K P fT hn s G Z xc (λy u h=>(o y u h).1) hp ⟨p,C⟩).nt r.1;refine az aa.9 λiH Md=>eY Md λt1 A t3 t4 t5=>?_;clear Md;haveI vt:=(A _).mpr (aS p C lv);have I:∀w,w∈iH.erase (U x)↔w≠U x/\w∈iH:=λw=>t1.mem_erase_iff;refine⟨ac,as,a1,a2,a3,a4,λw hw=>?_,jB.mpr ⟨aa.8,by simp,λa ha b L e=>C (cL.mp L▸e▸ha)⟩,iH.erase (U x)++_,jB.mpr ⟨t1.erase _,b1,λa ha b L e=>?_⟩,λw=>?_,?_,?_,λw hw=>?_⟩
 .refine B f4<|B W<|B X ?_;rcases dT.mp hw with h|h
  .haveI:=aa.7 w h;exact⟨(r.2 w).mpr (.inl this.1),this.2.1,by lia⟩
  .exact B (cL.mp h) ((aS ((r.2 _).mpr (.inl p)) lv.2 (by lia)))
 .haveI k:=((A a).mp ((I a).mp ha).2).1;exact((b2 b).mp L).1.2 (e▸k)
 .rw[dT,I,A,b2,f4,X,dT,cL];constructor
  .rintro(⟨a,b,c,d⟩|⟨⟨a,b⟩,c⟩)
   .exact aS ((r.2 w).mpr (.inl b)) (λq=>q.elim c a) d
   .exact aS a (λq=>b (q.elim (λq=>(aa.7 w q).1) λq=>B q p)) c
  .intro M;refine br M λa b c=>?_;rcases cY (t.sn w=true)with h|h
   .exact .inl (cg (λq=>b (.inr q)) h (λq=>b (.inl q)) c)
   .exact .inr ⟨⟨a,h⟩,c⟩
 .simp only[cx,List.length_erase_of_mem vt,b9,t3]
 .rw[cx,List.length_erase_of_mem vt];lia
 .rw[W];refine Or.elim (dT.mp hw) (λh=>?_) (λh=>?_)
  .obtain⟨k,m⟩:=(I w).mp h;haveI h3:=t5 w m;haveI:t.S w≠i:=λe=>by
    haveI w1:=aa.2 w ((A w).mp m).1;exact k (j.inj ⟨by lia,w1.2.1⟩ G.fu w1.2.2 (ni j.tv G (by refine B Z ?_;decide)) (e.trans sx.symm))
   lia
  .obtain⟨⟨k,m⟩,_⟩:=(b2 w).mp h;refine az (((r.2 w).mp k).resolve_left m) λy Me=>br Me λg z AB=>?_;clear Me;clear h k m;subst AB;have:=(o y g (ne y g (pT.mp z).1)).2;lia
theorem An.skip{gi i:Nat}(b:cB t)(aa:An t g aY bU done pr gi i)(j:t.tr[i]? =some x)(h:t.sn (U x)=false):An t g aY bU done pr gi ((i:Int)-1):=by
 refine az aa.9 λiH c=>eY c λt1 d t3 k l=>⟨aa.1,aa.2,aa.3,aa.4,aa.5,aa.6,λw hw=>⟨(aa.7 w hw).1,(aa.7 w hw).2.1,by have:=(aa.7 w hw).2.2;lia⟩,aa.8,cR iH (e_ t1 d t3 k λw hw=>?_)⟩
 haveI m:=l w hw;have w1:=((d w).mp hw).1;haveI f:=aa.2 w w1;haveI a:=b.3 i x j;haveI:t.S w≠i:=λe=>by
  haveI:=b.inj ⟨by lia,f.2.1⟩ a.1.fu f.2.2 (ni b.tv a.1 (by refine B a.2.1 ?_;decide)) (e.trans a.2.2.symm)
  replace w1:=this▸w1;replace w1:=h▸w1;exact nf w1
 lia
theorem An.pos(c:cB t)(aa:An t g aY bU done pr gi j):0<=j:=by
 refine az aa.9 λiH a=>eY a λt1 d t3 e f=>?_;clear a;cases iH with
 |nil=>cases e
 |cons w iH=>
  haveI i:=f w (bE ..);haveI b:=aa.2 w ((d w).mp (bE ..)).1;have:=(c.v ⟨by lia,b.2.1⟩ b.2.2).elim λY h=>h.2.2
  lia
theorem An.dM{gi i:Nat}(a:cB t)(aa:An t s aY bU done pr gi i)(b:t.tr[i]? =some x)(h:t.sn (U x)=true):U x∉done/\t.ae (U x)≠0/\t.ae (U x)=t.aK.length:=by
 refine az aa.9 λiH e=>eY e λt1 g t3 j k=>?_;clear e;haveI l:=a.3 i x b;refine⟨λq=>by haveI:=(aa.7 _ q).2.2;rw[l.2.2]at this;exact absurd this (Int.lt_irrefl _),?_⟩
 cases iH with
 |nil=>cases j
 |cons w iH=>
  haveI u:=k w (bE ..);refine eI ((g w).mp (bE ..)) λw1 Y n o=>?_;haveI c:=aa.2 w w1;refine az (a.v ⟨by lia,c.2.1⟩ c.2.2) λy f=>br f λp d r=>?_
  clear f;clear w1 c r;subst d;haveI m:=a.b_ (by lia) p b
  have:=(a.6 i x b).2.1;lia
theorem An.ahw{gi i:Nat}(a:cB t)(R:fY t)(aa:An t L aY bU done pr gi i)(d:t.tr[i]? =some x)(h:t.sn (U x)=true)(m:gi≠1):Cn t (t.R (U x))/\x∈t.cl (t.R (U x))/\∀y∈t.cl (t.R (U x)),y≠x->t.val y= -1/\t.S (U y)<i:=by
 haveI f:=aa.dM a d h;haveI a1:=f.1;haveI a2:=f.2.1;haveI M:=f.2.2;refine(R.1 i x d).resolve_left λo=>aU o λY p=>az p λj s=>aU s λN z=>az aa.9 λiH k=>eY k λt1 A t3 C E=>?_;clear k;haveI c:=a.3 i x d;haveI:∃w∈iH,w≠U x:=jX λn=>by
  haveI all:=λw hw=>jX λq=>n ⟨w,hw,q⟩
  match iH,t1,C,all with
  |[w],_,_,_=>exact m t3
  |w::u::r,nd,_,all=>exact(jb.mp nd).1 ((all w (bE ..)).trans (all u (cP _ (bE ..))).symm▸bE ..)
 obtain⟨w,w1,G⟩:=this;refine eI ((A w).mp w1) λs1 Y s3 s4=>?_;haveI s5:=E w w1;haveI b:=aa.2 w s1;refine az (a.v ⟨fp (by decide) b.1,b.2.1⟩ b.2.2) λy l=>br l λI g J=>?_
 clear l;clear w1 s1 s3;subst g;haveI:=((a.6 _ y I).2.2 j i z).mp (by lia)
 haveI e:t.S (U y)=i:=Int.le_antisymm s5 (fp this (Int.le_of_eq (Int.toNat_of_nonneg J)));exact G (a.inj ⟨fp (by decide) b.1,b.2.1⟩ c.1.fu b.2.2 (ni a.tv c.1 (by refine B c.2.1 ?_;decide)) (e.trans c.2.2.symm))
theorem An.qq(d:t.n<=5)(aa:An t i aY bU done pr gi j):aY.length<=5/\bU.length<=5/\done.length<=5:=by
 haveI f:=λl nd (h:∀w∈l,t.sn w=true)=>aV (pW nd λw hw=>⟨(aa.2 w (h w hw)).1,(aa.2 w (h w hw)).2.1⟩) d;refine aS ?_ (f bU aa.6 λw hw=>((aa.5 w).mp hw).1) (f done aa.8 λw hw=>(aa.7 w hw).1);haveI:=f (aY.map U) (rP aa.4 λx a y b e=>?_) λw hw=>?_
 .rwa[b9]at this
 .have a:=(aa.3 x).mp a;have b:=(aa.3 y).mp b;exact oI a.1 a.2.1 b.2.1 e
 .refine az (cW.mp hw) λx c=>aU c λa g=>?_;clear c;subst g;exact((aa.3 x).mp a).2.2.1
def A4(e Z:H)(a b c d:Nat)(aY bU:List Int)(pr:List V)(done:List Int):Prop:=y7
 (Z a=some (.list (Zl aY)))
 (Z b=some (.list (Zl bU)))
 (Z c=some (.list pr))
 (Z d=some (.list (Zl done)))
 (a≠b)
 (a≠c)
 (a≠d)
 (b≠c)
 (b≠d)
 (c≠d)
 (e a=none)
 (e b=none)
 (e c=none)
 (e d=none)
 (∀y o,e y=some o->Z y=some o)
theorem mE{b Z:H}(h:b a=none)(s:∀y o,b y=some o->Z y=some o):∀y x,b y=some x->Z.set a o y=some x:=λy x e=>by
 haveI:y≠a:=λq=>by replace e:=q▸e;replace e:=h▸e;exact nn e
 exact B (H.a6 this) (s y x e)
theorem A4.BY(aa:A4 e Z a b c d aY bU pr done):A4 e (Z.set c (.list x)) a b c d aY bU x done:=
 ⟨(H.a6 aa.6).trans aa.1,(H.a6 aa.8).trans aa.2,H.bC,(H.a6 (cQ aa.10)).trans aa.4,aa.5,aa.6,aa.7,aa.8,aa.9,aa.10,aa.11,aa.12,aa.13,aa.14,mE aa.13 aa.15⟩
theorem A4.ah1(aa:A4 e Z a b c d aY bU pr done):A4 e (Z.set d (.list (Zl x))) a b c d aY bU pr x:=
 ⟨(H.a6 aa.7).trans aa.1,(H.a6 aa.9).trans aa.2,(H.a6 aa.10).trans aa.3,H.bC,aa.5,aa.6,aa.7,aa.8,aa.9,aa.10,aa.11,aa.12,aa.13,aa.14,mE aa.14 aa.15⟩
theorem A4.eM(aa:A4 e Z a b c d aY bU pr done):A4 e (H.eM Z a b x y) a b c d x y pr done:=
 ⟨H.Ci aa.5,H.Cj,by rw[H.eM,H.a6 (cQ aa.8),H.a6 (cQ aa.6)];exact aa.3,by rw[H.eM,H.a6 (cQ aa.9),H.a6 (cQ aa.7)];exact aa.4,aa.5,aa.6,aa.7,aa.8,aa.9,aa.10,aa.11,aa.12,aa.13,aa.14,mE aa.12 (mE aa.11 aa.15)⟩
set_option tactic.hygienic true in
theorem H.Cm(ha:Z a=some (.list (Zl aY)))(c:Z b=some (.list (Zl bU))):H.eM Z a b aY bU=Z:=by
 funext y;unfold H.eM H.set
 split
 .rename_i h;simp only[h,c]
 .split
  .rename_i h;simp only[h,ha]
  .rfl
theorem HZ(M:Mem I t Z A)(ha:A a=none)(g:(A.set a (.list (Zl xs))) b=none)(i:((A.set a (.list (Zl xs))).set b (.list [])) c=none)(hd:(((A.set a (.list (Zl xs))).set b (.list [])).set c (.list [])) d=none):∃bj,A4 Z bj a b c d xs [] [] ys/\Mem I t bj ((((A.set a (.list (Zl xs))).set b (.list [])).set c (.list [])).set d (.list (Zl ys))):=by
 have j:=M.dy (o:=.list (Zl xs)) (.inl ha);have M2:=j.dy (o:=.list []) (.inl g);haveI k:=M2.dy (o:=.list []) (.inl i);haveI p:=k.dy (o:=.list (Zl ys)) (.inl hd);haveI na:=M.dP ha;haveI nb:=j.dP g;have f:=M2.dP i;haveI nd:=k.dP hd;haveI up:∀{Z:H} {a b:Nat} {o:bN},Z.set a o b=none->b≠a/\Z b=none:=λ{Z a b o} h=>by
  have:b≠a:=λq=>by replace h:=q▸h;replace h:=H.bC▸h;exact ns h
  exact⟨this,by rw[H.a6 this]at h;exact h⟩
 haveI e:=up nb;haveI l:=e.1;haveI nb:=e.2;haveI e:=up f;haveI m:=e.1;haveI f:=e.2;haveI e:=up f;haveI ca:=e.1;haveI f:=e.2;haveI e:=up nd;haveI dc:=e.1;haveI nd:=e.2;haveI e:=up nd;haveI db:=e.1;haveI nd:=e.2;haveI e:=up nd;haveI n:=e.1;haveI nd:=e.2;refine⟨_,⟨?_,?_,?_,H.bC,cQ l,cQ ca,cQ n,cQ m,cQ db,cQ dc,na,nb,f,nd,mE nd (mE f (mE nb (mE na λY Y h=>h)))⟩,p⟩
 .exact B (H.a6 (cQ n))<|B (H.a6 (cQ ca))<|B (H.a6 (cQ l))<|H.bC
 .exact B (H.a6 (cQ db))<|B (H.a6 (cQ m))<|H.bC
 .exact B (H.a6 (cQ dc)) H.bC
theorem aiI(M:Mem I t Z A)(k:∀a b c d bj e,A4 Z bj a b c d [] [] [] []->Mem I t bj e->Ss C r ((((l.set w (.ref a)).set x (.ref b)).set y (.ref c)).set z (.ref d)) e Q):Ss C (.jE [w,x,y,z] (.aE [.dj [],.dj [],.dj [],.dj []])::r) l A Q:=λa ha b f c g d hd=>
 (HZ (xs:=[]) M ha f g hd).elim λbj h=>cE _ _ (aS rfl rfl (k a b c d bj _ h.1 h.2))
def T2(C:Cx)(x y:Nm)(b:a7)(r:List St)(l:aH)(Q:Fl->aH->H->Prop)(v:V)(A:H):Prop:=Es C [b] l A λE A=>∃ws a,V.aE (v::E)=.aE ws/\ik [x,y] ws l=some a/\Ss C r a A Q
theorem B6(h:aB C a l A λv A=>T2 C x y b r l Q v A):Ss C (.jE [x,y] (.aE [a,b])::r) l A Q:=h
theorem yH(h:Ev C l A a w)(k:Ss C r ((l.set x v).set y w) A Q):T2 C x y a r l Q v A:=h _ (cE _ _ (aS rfl rfl k))
theorem F9(q:Q .none A):aA (k+1) .v_ [v,w] A Q:=⟨_,rfl,cI ki q⟩
noncomputable def R1:List St:=Df.drop 4
def Ct(t0:T)(e:bT->Nat)(f:H)(g:Int)(a b c d:Nat)(l:aH)(A:H)(I:bT->Nat)(t:T)(Z:H)(aY bU done:List Int)(pr:List (Int×Option Int))(gi:Nat)(i:Int):Prop:=y0
 (ph e I)
 (Nt t0 t)
 (Mem I t Z A)
 (A4 f Z a b c d aY bU (gV pr) done)
 (An t g aY bU done pr gi i)
 (i<t.tr.length)
 (pr.length=done.length)
 (l .X=some (me e))
 (l .aY=some (.ref a))
 (l .bU=some (.ref b))
 (l .eH=some (.ref c))
 (l .done=some (.ref d))
theorem Gu:gV ps++[.aE [.int v,oi s]]=gV (ps++[(v,s)]):=by unfold gV;simp only[iJ];rfl
def Bn(op:tR)(i:Int)(R:V->H->Prop)(w:V)(A:H):Prop:=∃i' j,V.int i=.int i'/\w=.int j/\qS op i' j/\R (.int (qV op i' j)) A
theorem wX(h:Ev C l A a (.int i))(g:aB C b l A λw A=>Bn op i R w A):aB C (.cJ op a b) l A R:=h _ g
theorem wu(h:qS op i j)(e:qV op i j=x)(k:R (.int x) A):Bn op i R (.int j) A:=cE i j (cg rfl rfl h (B e k))
theorem R0(M:Mem I t Z A)(b:Bd t)(z:lj t)(ag:cB t)(R:fY t)(K:dY t)(hp:Hp t)(P:t.pf=true->ek t)(hc:Cn t v)(hf:∀x∈t.cl v,t.val x= -1)(hs:∀w,t.sn w=false)(hD:∃x∈t.cl v,t.ae (U x)=t.aK.length)(D0:t.aK.length≠0)(uV:l0 .X=some (me I))(nG:l0 .gj=some (.int v))
 (q:∀l A j J bj a b c d aY bU done pr (i:Nat) x,Ct t I Z v a b c d l A j J bj aY bU done pr 1 i->J.tr[i]? =some x->J.sn (U x)=true->l .lit=some (.int x)->Ss (aA (k+7)) R1 l A Q):Ss (aA (k+7)) Df l0 A Q:=by
 refine aiI M λra rb rc rd bj A aa M=>eX M (O ‹_›) bb (aI (O nG) aX) (F9 ?_);haveI M:=(H.Cm aa.1 aa.2).symm▸M;refine B6 (iP M (O uV) bb (aI (O nG) (aI a8 (aI (O rfl) (aI (O rfl) aX)))) (Pb aa.5 M b K hp hc (fw _) (fw _) λA fM t1 o1 M r=>?_));haveI zw:=r.1.d.1 b;haveI jF:=zw.jF;haveI f1:=r.1.f;have oQ:∀{j:bT->Nat},ph I j->∀l:aH,l .X=some (me I)->l .X=some (me j):=λo l h=>h.trans (aP (λp=>some (V.ref p)) (o (.ob .aO) λh=>bT.ne rfl h).symm);haveI akd:=oQ o1 _ uV;refine yH (dz (jt ‹_› (bY M ‹_› rfl rfl) rfl ‹_› rfl) a8 rfl trivial) ?_;haveI A0:=An.mD ag K P hc hf hs r hD D0;simp only[show(t.tr.length:Int)-1=t1.tr.length-1 by exact f1.2.1▸rfl]at A0
 refine pY (λm l A=>∃j J bj aY bU done pr gi i,Ct t I Z v ra rb rc rd l A j J bj aY bU done pr gi i/\l .count=some (.int gi)/\l .cT=some (.int i)/\m=i) t1.tr.length.pred ⟨fM,t1,_,_,_,_,_,_,_,⟨o1,r.1,M,aa.eM,A0,by lia,rfl,uV,rfl,rfl,rfl,rfl⟩,rfl,rfl,?_⟩ ?_
 .haveI:=A0.pos (r.1.d.2.2.1 ag);simp only[Nat.pred_eq_sub_one];lia
 rintro m l A ⟨j,J,bj,aY,bU,done,pr,gi,i,ae,lc,ls,rfl⟩ RR hR PP p1 p2 _;refine mR gU (λY=>?_) nt;refine o_ ae.2.f λf1 f2 f3 f4 f5 f6 f7 f8 f9 mf jR=>iM ae.2.d λd1 d2 d3 d4 d5 d6=>?_;haveI y:=d1 b;have C:=y.1;haveI Ui:=y.jF;have u:=d3 ag;haveI K':=d5 K;refine pY (λn l A=>Ct t I Z v ra rb rc rd l A j J bj aY bU done pr gi n/\l .count=some (.int gi)/\l .cT=some (.int n)/\n<=m) m (cg ae lc ls (dR _)) ?_;intro n l A Mo ajU xk ajT tC Y Y;refine gn λkG=>eI Mo λabv lc ls nm=>?_;try clear Mo
 obtain⟨o,nt,M,aa,An,il,pl,E,l2,l3,G,L⟩:=abv;refine kG ?_;have s:=dZ (g9.mp il);generalize J.tr[n]=x at s;haveI lx:=u.3 n x s;haveI ix:=lx.1.fu;have Bf:=oQ o l E;have ex:∀l:aH,l .X=some (me j)->l .cT=some (.int n)->Ev (aA (k+7)) l A (.aQ (.aC (.var .X) .iU) (.var .cT)) (.int x):=λl a a'=>kh M (bY M ‹_› rfl rfl) (O ‹_›) rfl Ui s;haveI sn:Ev (aA (k+7)) l A (.aQ (.aC (.var .X) .iF) (.b1 .abs (.aQ (.aC (.var .X) .iU) (.var .cT)))) (.bool (J.sn (U x))):=eF M (bY M ‹_› rfl rfl) (fO (ex l Bf ls) rfl) rfl C rfl ix;refine mR (oH sn rfl) (λw=>?_) λw=>?_
 .have w:J.sn (U x)=false:=by cases h:J.sn (U x)with|false=>rfl|true=>replace w:=h▸w;exact nf w
  have A':=An.skip u s w;have ag_:=A'.pos u;obtain⟨g,rfl⟩:∃g,n=g+1:=⟨n-1,by lia⟩
  have en:((g+1:Nat):Int)-1=g:=Int.add_sub_cancel g 1;simp only[en]at A';refine dG (dz (O ‹_›) a8 en trivial) (d9 (tC _ _ ?_).1);exact xk g _ _ (k5 _) (cg ⟨o,nt,M,aa,A',by lia,pl,E,l2,l3,G,L⟩ lc rfl (Nat.le_of_succ_le nm))
 .have w:J.sn (U x)=true:=by cases h:J.sn (U x)with|true=>rfl|false=>replace w:=h▸w;injection w
  refine dG (ex l Bf ls)<|bL (di (O ‹_›) a8 rfl) (λc=>?_) λc=>c7 ?_
  .have c:gi=1:=by
    lia
   clear ae xk lc;subst c;exact GG (p2 _ _ (q _ A j J bj ra rb rc rd aY bU done pr n x ⟨o,nt,M,aa,An,il,pl,E,l2,l3,G,L⟩ s w rfl))
  .haveI c:gi≠1:=λe=>by replace c:=e▸c;injection c
   refine br (An.ahw u (d4 R) s w c) λW xc ro=>?_;haveI xD:=An.dM u s w;haveI v1:=xD.1;haveI v2:=xD.2;haveI hZ:=An.qq C;haveI pR:=hZ.1;haveI FL:=hZ.2.1;haveI yl:=hZ.2.2;haveI ax:∀l:aH,l .lit=some (.int x)->Ev (aA (k+7)) l A (.b1 .abs (.var .lit)) (.int (U x)):=λl a=>fO (O ‹_›) rfl;refine dG (eF M (bY M ‹_› rfl rfl) (ax _ rfl) rfl C rfl ix) ?_;generalize aj9:J.R (U x)=N at W xc ro;haveI st:Ev (aA (k+7)) ((l.set .lit (.int x)).set .bO (.int N)) A (.aQ (.aC (.var .X) .cK) (.var .bO)) (oi (J.st N)):=sR M y (d2 z) (bY M ‹_› rfl rfl) (O rfl) W;refine m4 M (O G) (ju (aI (ax _ rfl) (aI st aX))) aa.3 (by simp only[gV,b9,pl];exact df yl (iV (bt rfl))) λA M=>?_
   haveI aa:=aa.BY (x:=gV (pr++[(U x,J.st N)]));rw[Gu]at M;refine m4 M (O L) (fO (O rfl) rfl) aa.4 (B cj (df yl (iV (bt rfl)))) λA M=>?_;rw[j5]at M;haveI aa:=aa.ah1 (x:=done++[U x]);refine eX M (O ‹_›:Ev _ _ _ _ (me j)) bb (aI (O rfl) aX) (F9 ?_);haveI M:=(H.Cm aa.1 aa.2).symm▸M;refine gF (wX (dz (O ‹_›) a8 rfl trivial) (iP M (O ‹_›:Ev _ _ _ _ (me j)) bb (aI (O rfl) (aI (fO (O rfl) rfl:Ev _ _ _ _ (.int (U x))) (aI (O ‹_›) (aI (O ‹_›) aX)))) (Pb aa.5 M y K' nt.2 W (aV pR (by decide)) (aV FL (by decide)) λA eO t2 o2 M r=>?_)))
   have A2:=An.next u K' (λf=>d6 (P (aT mf f))) C s rfl w v1 v2 c W xc ro r;have ag_:=A2.pos (r.1.d.2.2.1 u);haveI c1:1<=gi:=by refine az An.9 λY Mm=>eY Mm λY Y h h' Y=>?_;clear Mm;lia
   haveI ec:((gi:Int)-1)+((((J.cl N).filter (J.nw (U x))).filter J.hi).length)=((gi-1+(((J.cl N).filter (J.nw (U x))).filter J.hi).length:Nat)):=by lia
   refine wu trivial ec<|gn λkG=>?_;obtain⟨g,rfl⟩:∃g,n=g+1:=⟨n-1,by lia⟩
   refine kG ?_;haveI en:((g+1:Nat):Int)-1=g:=Int.add_sub_cancel g 1;simp only[en]at A2;refine dG (dz (O ‹_›) a8 en trivial) (d9 (p1 _ _ ?_).1);refine hR g _ _ (Nat.lt_of_succ_le nm) ⟨eO,t2,_,_,_,_,_,_,_,⟨λaD h=>(o2 aD h).trans (o aD h),nt.trans r.1,M,aa.eM,A2,by refine r.1.f.2.1▸?_;lia,by simp only[cx,cx];refine aT pl ?_;rfl,E,l2,l3,G,L⟩,rfl,rfl,rfl⟩
noncomputable def T.im(t:T)(x:Int):Bool:=open Classical in decide (t.R (U x)≠-1/\∀y∈t.cl (t.R (U x)),U y=U x\/t.ae (U y)<=0\/t.sn (U y)=true)
open Classical in
theorem aep(M:Mem I t Z A)(b:Bd t)(K:dY t)(N:a9 t x)(W:t.R (U x)= -1\/Cn t (t.R (U x)))(Q:V->H->Prop)(q:Q (.bool (t.im x)) A):aA (k+1) .za [me I,.int x] A Q:=by
 have t5:=b.1;haveI ix:=N.fu;refine⟨_,rfl,dG (eF M (bY M rfl rfl rfl) (fO (x:=U x) (O rfl) rfl) rfl t5 rfl ix) ?_⟩;refine bL (di (O rfl) eG rfl) (λc=>?_) λc=>c7 ?_
 .have c:t.R (U x)= -1:=jX λe=>by replace c:=(dp e)▸c;cases c
  have:t.im x=false:=dp λh=>h.1 c;rw[this]at q;exact cI gU q
 .have c:t.R (U x)≠-1:=λe=>by replace c:=(cO e)▸c;cases c
  have a:=W.resolve_left c;refine kR (mc M b (bY M rfl rfl rfl) (show Ev _ _ _ _ (.int (t.R (U x)))from O rfl) a _ ?_);show tU _ _ _ _ _ _ _ _;refine nF (λE l m=>m=A/\l .X=some (me I)/\l .lit=some (.int x)/\∃done,t.cl (t.R (U x))=done++E/\∀y∈done,U y=U x\/t.ae (U y)<=0\/t.sn (U y)=true) (M.1 _ _ (js a)) (b.nX a.1 a.2) ⟨rfl,rfl,rfl,[],rfl,λy h=>nomatch h⟩ (λE l m h=>h.1▸M.1 _ _ (js a)) ?_ ?_
  .intro v E l A n P p1 Y p3;refine eI n λd o p r=>az r λdone s=>aU s λe h=>?_;clear r s;try clear n
   have d:=d.symm;subst d;have u:v∈t.cl (t.R (U x)):=by rw[e];exact iW _ (bE ..)
   have iv:=(K.2 _ v a u).1.fu;haveI e1:Ev (aA k) ((l.set .d8 (.int v)).set .var (.int (U v))) A (.eq true (.var .var) (.b1 .abs (.var .lit))) (.bool (decide (U v=U x) !=true)):=di (O rfl) (fO (x:=U x) (O ‹_›) rfl) rfl;haveI e2:Ev (aA k) ((l.set .d8 (.int v)).set .var (.int (U v))) A (.dw .gt (.aQ (.aC (.var .X) .iR) (.var .var)) (.int 0)) (.bool (decide (0<t.ae (U v)))):=eP (eF M (bY M ‹_› rfl rfl) (O rfl) rfl ‹_› rfl ‹_›) a8 rfl;haveI e3:Ev (aA k) ((l.set .d8 (.int v)).set .var (.int (U v))) A (.not (.aQ (.aC (.var .X) .iF) (.var .var))) (.bool (!t.sn (U v))):=oH (eF M (bY M ‹_› rfl rfl) (O rfl) rfl ‹_› rfl ‹_›) rfl;refine dG (fO (O rfl) rfl) (bL (gT (dC e1 λY=>dC e2 λY=>dC e3 λY=>hO)) (λz=>?_) λz=>c_ (p1 _ _ ?_).1)
   .have z:=(jC _ _).mp z;have C:=(jC _ _).mp z.2;have f:=(jC _ _).mp C.2;haveI:t.im x=false:=dp λh=>by
     rcases h.2 v u with w|w|w
     .replace z:=(cO w)▸z;cases z.1
     .exact absurd (dQ C.1) (Int.not_lt.mpr w)
     .replace f:=w▸f;cases f.1
    rw[this]at q;exact cI gU (p3 _ _ _ q)
   .refine⟨rfl,o,p,done++[v],by rw[e,iX];rfl,λy hy=>?_⟩
    rcases dT.mp hy with w|w
    .exact h y w
    .rw[cL.mp w];refine Or.elim (cY (U v=U x)) (λg=>?_) (λg=>?_)
     .exact .inl g
     .refine Or.elim (Int.lt_or_le 0 (t.ae (U v))) (λi=>?_) (λi=>?_)
      .refine .inr (.inr ?_);replace z:=(dp g)▸z;replace z:=(cO i)▸z;cases h:t.sn (U v)with
       |true=>rfl
       |false=>replace z:=h▸z;cases z
      .exact .inr (.inl i)
  .intro l A G;refine gn λkG=>eI G λj o p J=>az J λdone L=>aU L λe h=>?_;clear J L;try clear G
   subst j;refine kG ?_;rw[fQ]at e;haveI:t.im x=true:=cO ⟨c,e▸h⟩;rw[this]at q;exact cI gU q
def Ah(t:T)(a:Int)(x:Int)(aY bU fZ:List Int)(pr:List (Int×Option Int)):Prop:=yY
 (Ac t a pr λw=>t.sn w=true/\w∉fZ)
 (∀w,t.sn w=true->1<=w/\w<=t.n/\t.aa w≠0)
 (∀x,x∈aY↔a9 t x/\t.val x= -1/\t.sn (U x)=true/\t.ae (U x)≠0/\t.ae (U x)≠t.aK.length)
 (aY.Nodup)
 (∀w,w∈bU↔t.sn w=true/\t.ae w=0)
 (bU.Nodup)
 (∀w∈fZ,t.sn w=true/\t.ae w≠0/\t.ae w≠t.aK.length)
 (fZ.Nodup)
 (a9 t x/\t.val x=1/\t.sn (U x)=true/\t.ae (U x)≠0/\t.ae (U x)=t.aK.length)
 (∀w,t.sn w=true->t.ae w≠0->t.ae w=t.aK.length->w=U x)
theorem An.ah(l:cB t){i:Nat}(aa:An t v aY bU done pr 1 i)(m:t.tr[i]? =some x)(h:t.sn (U x)=true)(hp:Hp t)(n:Nt t J)(hs:∀w,J.sn w=true↔t.sn w=true/\w∉done):Ah J v x aY bU [] pr:=by
 refine gn λz=>o_ n.f λf1 f2 A f4 L M N f8 P Q g=>?_;haveI o:=l.3 i x m;refine br (aa.dM l m h) λv1 v2 v3=>?_;have p:∀w∈done,t.ae w≠0/\t.ae w=t.aK.length:=λw hw=>⟨λe=>v2 (B v3<|((aa.7 w hw).2.1)▸aT e rfl),(aa.7 w hw).2.1⟩;refine az aa.9 λiH r=>eY r λt1 s t3 R W=>z ?_;clear r;have j:∀w∈iH,w=U x:=λw hw=>by
  haveI k:=(s _).mpr (cg h v1 v2 v3)
  match iH,t3,k,hw with
  |[u],_,k,hw=>refine B ((cL.mp k)) ?_;exact B (cL.mp hw) rfl
 refine⟨?_,λw hw=>by refine B f1 ?_;refine B A ?_;exact aa.2 w ((hs w).mp hw).1,λy=>?_,aa.4,λw=>?_,aa.6,λw h=>(nomatch h),.nil,(e_ ((n.lit x).mpr o.1) ((n.val x).trans o.2.1) ((hs _).mpr ⟨h,v1⟩) (B f4 v2) (by rw[f4,g];exact v3)),λw hw a b=>?_⟩
 .haveI:(λw=>J.sn w=true/\w∉([]))=λw=>t.sn w=true/\w∉done:=funext λw=>propext ⟨λh=>(hs w).mp h.1,λh=>⟨(hs w).mpr h,λq=>nomatch q⟩⟩
  exact B this<|aa.1.nt n
 .simp only[aa.3,n.lit,n.val,hs,f4,g];exact⟨λC=>eI C λa b c d=>cg a b ⟨c,λq=>d.2 (p _ q).2⟩ d,λE=>eI E λa b c d=>cg a b c.1 d⟩
 .rw[aa.5,hs,f4];exact⟨λG=>aU G λa b=>⟨⟨a,λq=>(p _ q).1 b⟩,b⟩,λI=>aU I λa b=>⟨a.1,b⟩⟩
 .rw[f4]at a b;rw[g]at b;haveI:=(hs w).mp hw;exact j w ((s w).mpr (cg this.1 this.2 a b))
theorem Ah.next(p:cB t)(K:dY t)(P:t.pf=true->ek t)(G:t.n<=5){r x:Int}{aY bU fZ:List Int}(aa:Ah t r x aY bU fZ pr){y N:Int}(I:a9 t y)(L:t.val y=1)(i:t.sn (U y)=true/\t.ae (U y)≠0/\t.ae (U y)≠t.aK.length)(s:U y∉fZ)(v:Cn t N)(M:y∈t.cl N)
 (k:∀u∈t.cl N,u≠y->t.val u= -1/\t.S (U u)<t.S (U y)) (im:∀u∈t.cl N,U u=U y\/t.ae (U u)=0\/t.sn (U u)=true) (Q:∀w∈fZ,t.S (U y)<=t.S w)
 (n:Nt t J) (hs:∀w,J.sn w=true↔t.sn w=true\/w∈new) (hw:∀w,w∈new↔¬t.sn w=true/\t.ae w=0/\∃u∈t.cl N,U u=w) (nd:new.Nodup):Ah J r x aY (bU++new) (fZ++[U y]) (pr++[(U y,t.st N)]):=by
 haveI f1:=n.f.1;haveI R:=n.f.2.2.1;have f4:=n.f.2.2.2.1;have j:=n.f.2.2.2.2.2.2.2.2.2.2;haveI ne:∀u∈t.cl N,U u≠U y->u≠y:=λu Y h e=>h (aT e rfl);have as:=λw h=>by
  refine Or.elim ((hs w).mp h) (λh=>?_) (λh=>?_)
  .exact aa.2 w h
  .refine br ((hw w).mp h) λW A C=>az C λu E=>aU E λg m=>?_;clear C E;subst m;haveI l:=(K.2 N u v g).1;exact(aS l.U.1 l.U.2 (ni p.tv l (by rw[(k u g λe=>i.2.1 (aT e A)).1];decide)))
 haveI hp:∀w,(J.sn w=true/\w∉fZ++[U y])↔w≠U y/\((t.sn w=true/\w∉fZ)\/∃u∈t.cl N,U u=w):=λw=>by
  rw[hs,dT,cL];constructor
  .rintro⟨a|a,b⟩
   .exact⟨λq=>b (.inr q),.inl ⟨a,λq=>b (.inl q)⟩⟩
   .exact⟨λq=>b (.inr q),.inr ((hw w).mp a).2.2⟩
  .rintro⟨a,⟨b,c⟩|⟨u,g,rfl⟩⟩
   .exact⟨.inl b,λq=>q.elim c a⟩
   .refine⟨?_,λq=>q.elim (λq=>?_) a⟩
    .refine dx (t.sn (U u)=true) (λh=>?_) (λh=>?_)
     .exact .inl h
     .exact .inr ((hw _).mpr ⟨h,((im u g).resolve_left a).resolve_right h,u,g,rfl⟩)
    .haveI W:=Q _ q;have A:=(k u g (ne u g a)).2;lia
 haveI ac:=(aa.1.next p.tv K P (λw h=>as w h.1) G v I L M (λu hu h=>(k u hu h).1) hp ⟨i.1,s⟩).nt n;have nn:=λw h=>((hw w).mp h).2.1;refine⟨ac,λw h=>by refine f1▸?_;refine B R ?_;exact as w h,λz=>?_,aa.4,λw=>?_,jB.mpr (aS aa.6 nd λa ha b o e=>((hw b).mp o).1 (e▸((aa.5 a).mp ha).1)),λw h=>?_,jB.mpr ⟨aa.8,by simp,λa ha b o e=>s (cL.mp o▸e▸ha)⟩,(e_ ((n.lit x).mpr aa.9.1) ((n.val x).trans aa.9.2.1) ((hs _).mpr (.inl aa.9.2.2.1)) (B f4 aa.9.2.2.2.1) (by rw[f4,j];exact aa.9.2.2.2.2)),λw h a b=>?_⟩
 .rw[aa.3,n.lit,n.val,hs,f4,j];exact⟨λ⟨a,b,c,d⟩=>cg a b (.inl c) d,λX=>eI X λa b c d=>cg a b (c.resolve_right λq=>d.1 (nn _ q)) d⟩
 .rw[dT,aa.5,hs,f4];exact⟨λh=>h.elim (λ⟨a,b⟩=>⟨.inl a,b⟩) λh=>⟨.inr h,nn w h⟩,λZ=>aU Z λa b=>a.imp (λa=>⟨a,b⟩) id⟩
 .refine B f4<|B j ?_;rcases dT.mp h with h|h
  .exact⟨(hs w).mpr (.inl (aa.7 w h).1),(aa.7 w h).2⟩
  .exact B (cL.mp h) (⟨(hs _).mpr (.inl i.1),i.2⟩)
 .rw[f4]at a b;rw[j]at b;exact aa.10 w (((hs w).mp h).resolve_right λq=>a (nn w q)) a b
def S5(Z bj:H)(b c p g:Nat)(de ys bU:List Int)(pr:List (Int×Option Int)):Prop:=yY
 (bj p=some (.list (Zl de)))
 (bj g=some (.list (Zl ys)))
 (bj b=some (.list (Zl bU)))
 (bj c=some (.list (gV pr)))
 (b≠c)
 (p≠b)
 (p≠c)
 (g≠b)
 (g≠c)
 (∀y o,y≠b->y≠c->Z y=some o->bj y=some o)
theorem S5.ah0(aa:S5 Z bj b c p g de ys bU pr):S5 Z (bj.set b (.list (Zl x))) b c p g de ys x pr:=
 ⟨(H.a6 aa.6).trans aa.1,(H.a6 aa.8).trans aa.2,H.bC,(H.a6 (cQ aa.5)).trans aa.4,aa.5,aa.6,aa.7,aa.8,aa.9,λy o a d e=>(H.a6 a).trans (aa.10 y o a d e)⟩
theorem S5.BY(aa:S5 Z bj b c p g de ys bU pr):S5 Z (bj.set c (.list (gV x))) b c p g de ys bU x:=
 ⟨(H.a6 aa.7).trans aa.1,(H.a6 aa.9).trans aa.2,(H.a6 aa.5).trans aa.3,H.bC,aa.5,aa.6,aa.7,aa.8,aa.9,λy o d a e=>(H.a6 a).trans (aa.10 y o d a e)⟩
theorem Ah.qq(g:t.n<=5)(aa:Ah t i x aY bU fZ pr):aY.length<=5/\bU.length<=5:=by
 haveI f:=λl nd (h:∀w∈l,t.sn w=true)=>aV (pW nd λw hw=>⟨(aa.2 w (h w hw)).1,(aa.2 w (h w hw)).2.1⟩) g;refine⟨?_,f bU aa.6 λw hw=>((aa.5 w).mp hw).1⟩;haveI:=f (aY.map U) (rP aa.4 λx a y b e=>?_) λw hw=>?_
 .rwa[b9]at this
 .haveI a:=(aa.3 x).mp a;haveI b:=(aa.3 y).mp b;exact oI a.1 a.2.1 b.2.1 e
 .refine az (cW.mp hw) λx d=>aU d λa c=>?_;clear d;subst c;exact((aa.3 x).mp a).2.2.1
theorem aeo(f:cB t)(R:fY t)(g:a9 t y)(i:t.val y= -1)(h:t.im y=true):Cn t (t.R (U y))/\-y∈t.cl (t.R (U y))/\(∀u∈t.cl (t.R (U y)),u≠-y->t.val u= -1/\t.S (U u)<t.S (U y))/\∀u∈t.cl (t.R (U y)),U u=U y\/t.ae (U u)<=0\/t.sn (U u)=true:=by
 haveI h:=dQ h;haveI d:=f.neg g i;haveI s1:=d.2.1;haveI:=R.1 _ _ s1;rw[dJ]at this;have d:=this.resolve_left λq=>h.1 q.1;haveI a:=d.1;haveI b:=d.2.1;haveI c:=d.2.2;exact(cg a b (λu hu e=>⟨(c u hu e).1,by have:=(c u hu e).2;omega⟩) h.2)
theorem ahH(b:cB t)(R:fY t)(c:a9 t y)(d:t.val y= -1):t.R (U y)= -1\/Cn t (t.R (U y)):=by
 refine gn λe=>?_;haveI a:=b.neg c d;haveI s0:=a.1;haveI s1:=a.2.1;refine e ?_;haveI:=R.1 _ _ s1;rw[dJ]at this;exact this.imp And.left And.left
theorem ah8(M:Mem I t Z A)(bd:Bd t)(z:lj t)(ag:cB t)(R:fY t)(K:dY t)(AQ:Hp t)(P:t.pf=true->ek t)(aa:Ah t c0 x aY bU [] pr)(ha:Z a=some (.list (Zl aY)))(hb:Z b=some (.list (Zl bU)))(hc:Z c=some (.list (gV pr)))(bc:b≠c)(FR:pr.length<=20)
 (q:∀af J bj p g ys jU m fZ,Mem I J bj af->Z p=none->S5 Z bj b c p g (aY.filter λy=>!t.im y) ys jU m->Nt t J->Ah J c0 x aY jU fZ m->(∀w,w∈fZ↔∃y∈aY,t.im y=true/\U y=w)->m.length<=pr.length+5->Q (.ref p) af):
 aA (k+4) .HF [me I,.ref a,.ref b,.ref c] A Q:=by
 haveI t5:=bd.1;refine aU (aa.qq t5) λpR FL=>?_;have lb:(Zl aY).length<=bf:=B cj<|aV pR (bt rfl);have imp:∀{Z A},Mem I t Z A->∀(l:aH),l .X=some (me I)->∀v∈Zl aY,∃y∈aY,v=.int y/\Ev (aA (k+3)) (l.set .lit v) A (.aZ (.var .X) .aO .za [.var .lit]) (.bool (t.im y)):=λM l h v L=>by
  refine az (cW.mp L) λy MQ=>aU MQ λhy abJ=>?_;clear MQ;subst abJ;haveI r:=(aa.3 y).mp hy;exact⟨y,hy,rfl,gA M (O ‹_›) bb (aI (O rfl) aX) (aep M bd K r.1 (ahH ag R r.1 r.2.1))⟩
 haveI n1:=qd (it:=.var .aY) (cN:=.var .lit) (f:=id) (g:=qk λy=>!t.im y) (O rfl) (M.3 _ _ ha) lb (λv L=>by
  refine az (imp M ((((aH.set (λY=>none) .X (me I)).set .aY (.ref a)).set .bU (.ref b)).set .eH (.ref c)) rfl v L) λy sV=>br sV λY ZO e=>?_;clear sV;subst ZO;haveI:=dC (oH e rfl) λY=>hO;rw[Bool.and_true]at this;exact this) λv L Y=>O rfl
 simp only[xd]at n1;refine⟨_,rfl,vJ M n1 λp A np M=>?_⟩;have pa:a≠p:=λe=>by replace np:=e.symm▸np;replace np:=ha▸np;exact ns np
 haveI pb:b≠p:=λe=>by replace np:=e.symm▸np;replace np:=hb▸np;cases np
 haveI pc:c≠p:=λe=>by replace np:=e.symm▸np;replace np:=hc▸np;cases np
 haveI j:=qd (it:=.var .aY) (cN:=.b1 .abs (.var .lit)) (f:=nO U) (g:=qk t.im) (O rfl) (M.3 _ _ ((H.a6 pa).trans ha)) lb (λv L=>by
  refine az (imp M (((((aH.set (λY=>none) .X (me I)).set .aY (.ref a)).set .bU (.ref b)).set .eH (.ref c)).set .de (.ref p)) rfl v L) λy Au=>br Au λY Ar e=>?_;clear Au;subst Ar;haveI:=dC e λY=>hO;rw[Bool.and_true]at this;exact this) λv L Y=>by
   refine az (cW.mp L) λy AA=>aU AA λY uL=>?_;clear AA;subst uL;exact fO (O rfl) rfl
 have em:(((Zl aY).filter (qk t.im)).map (nO U))=Zl ((aY.filter t.im).map U):=by
  haveI:=aP (List.map (nO U)) (xd (g:=t.im) (xs:=aY));rw[List.map_id]at this;refine this.trans ?_;show((aY.filter t.im).map V.int).map _=((aY.filter t.im).map U).map V.int;simp only[fk,fk];rfl
 simp only[em]at j;refine vJ M j λe A tx M=>?_;have ep:e≠p:=λh=>by replace tx:=h▸tx;replace tx:=H.bC▸tx;exact ns tx
 have s:Z e=none:=by rw[H.a6 ep]at tx;exact tx
 haveI ea:b≠e:=λh=>by replace s:=h.symm▸s;replace s:=hb▸s;cases s
 haveI ec:c≠e:=λh=>by replace s:=h.symm▸s;replace s:=hc▸s;cases s
 have gm:∀w,w∈(aY.filter t.im).map U↔∃y∈aY,t.im y=true/\U y=w:=λw=>by
  exact cW.trans<|⟨λYz=>az Yz λy YB=>aU YB λhy h=>⟨y,(dU.mp hy).1,(dU.mp hy).2,h⟩,λYF=>az YF λy YK=>br YK λh1 h2 h3=>⟨y,dU.mpr ⟨h1,h2⟩,h3⟩⟩
 have lg:((aY.filter t.im).map U).length<=5:=by rw[b9];exact aV (lP ..) pR
 haveI WI:((aY.filter t.im).map U).Nodup:=rP (aa.4.filter _) λu hu v L h=>by
  haveI h1:=(aa.3 u).mp (dU.mp hu).1;haveI h2:=(aa.3 v).mp (dU.mp L).1;exact oI h1.1 h1.2.1 h2.2.1 h
 refine kR (iP M (O rfl) bb (aI (O rfl) aX) (Iy M bd (.inl H.bC) (df lg (by decide)) (λw hw=>?_) λA g ys ng M hp hs=>?_))
 .refine az ((gm w).mp hw) λy uM=>br uM λh1 Y aaD=>?_;clear uM;subst aaD;exact((aa.3 y).mp h1).1.fu
 haveI ge:g≠e:=λh=>by replace ng:=h▸ng;replace ng:=H.bC▸ng;exact ns ng
 replace ng:=(H.a6 ge)▸ng;have gp:g≠p:=λh=>by replace ng:=h▸ng;replace ng:=H.bC▸ng;exact ns ng
 replace ng:=(H.a6 gp)▸ng;haveI gb:g≠b:=λh=>by replace ng:=h▸ng;replace ng:=hb▸ng;cases ng
 haveI gc:g≠c:=λh=>by replace ng:=h▸ng;replace ng:=hc▸ng;cases ng
 have Bv:ys.length<=5:=B hp.length_eq lg;haveI S0:S5 Z (((Z.set p (.list (Zl (aY.filter λy=>!t.im y)))).set e (.list (Zl ((aY.filter t.im).map U)))).set g (.list (Zl ys))) b c p g (aY.filter λy=>!t.im y) ys bU pr:=
  ⟨B (H.a6 (cQ gp))<|B (H.a6 (cQ ep))<|B H.bC rfl,H.bC,by refine B (H.a6 (cQ gb))<|B (H.a6 ea)<|B (H.a6 pb)<|B hb rfl,B (H.a6 (cQ gc))<|B (H.a6 ec)<|B (H.a6 pc)<|B hc rfl,bc,cQ pb,cQ pc,gb,gc,λy o Y Y h=>mE ng (mE s (mE np λY Y h=>h)) y o h⟩
 refine nF (λE l A=>∃J bj jU m done,ys=done++E/\Mem I J bj A/\S5 Z bj b c p g (aY.filter λy=>!t.im y) ys jU m/\Nt t J/\(∀w,t.sn w=true->J.sn w=true)/\Ah J c0 x aY jU done m/\m.length=pr.length+done.length/\l .X=some (me I)/\l .bU=some (.ref b)/\l .eH=some (.ref c)/\l .de=some (.ref p)) (M.3 _ _ S0.2) (aV Bv (bt rfl)) (mM t _ bU pr ([]) (qQ rfl M S0 (.gX AQ) (λY h=>h) aa rfl rfl rfl rfl rfl)) ?_ ?_ ?_
 .intro E l A xJ;exact jD xJ λJ bj jU m done uO=>eI uO λY M S Y=>M.3 _ _ S.2
 .intro v E l A Mz PP p1 Y Y;refine gn λC=>jD Mz λJ bj jU m done MA=>o_ MA λey M S nt sm A' lp l1 l2 l3 l4=>?_;clear MA;try clear Mz
  refine o_ nt.f λf1 f2 f3 f4 f5 f6 f7 f8 f9 mf jR=>?_;haveI d1:=nt.d.1;haveI d2:=nt.d.2.1;haveI d3:=nt.d.2.2.1;have d5:=nt.d.2.2.2.2.1;haveI d6:=nt.d.2.2.2.2.2;have jP:=d1 bd;have jW:=jP.1;have K':=d5 K;have vy:v∈ys:=B ey (iW _ (bE ..));refine az ((gm v).mp (hp.mem_iff.mp vy)) λy sX=>br sX λy1 y2 EA=>?_;clear sX;subst EA;haveI ry:=(aa.3 y).mp y1;have vC:=(A'.3 y).mp y1;have hZ:=aeo ag R ry.1 ry.2.1 y2;have r1:=hZ.1;haveI r2:=hZ.2.1;have r3:=hZ.2.2.1;haveI r4:=hZ.2.2.2;generalize hN:t.R (U y)=N at r1 r2 r3 r4;have W:Cn J N:=by unfold Cn at r1⊢;exact B f8<|r1
  haveI iy:=vC.1.fu;haveI ae9:done.length<=5:=by rw[ey,cx]at Bv;exact aV (jK _ _) Bv
  haveI xH:=A'.qq jW;haveI akk:=xH.1;haveI akl:=xH.2;refine C<|dG (eF M (bY M ‹_› rfl rfl) (O rfl) rfl jW (aP V.int ((congrFun f6 _).trans hN)) iy)<|m4 M (O l3) (ju (aI (O rfl) (aI (sR M jP (d2 z) (bY M ‹_› rfl rfl) (O rfl) W) aX))) S.4 (by simp only[gV,b9,lp];exact df (Nat.add_le_add FR ae9) (iV (bt rfl))) λA M=>?_
  rw[Gu]at M;haveI S:=S.BY (x:=m++[(U y,J.st N)]);refine kR (mc M jP (bY M ‹_› rfl rfl) (O rfl) W _ ?_);refine nF (λws l A=>∃i g_ new dn,J.cl N=dn++ws/\Mem I i g_ A/\S5 Z g_ b c p g (aY.filter λy=>!t.im y) ys (jU++new) (m++[(U y,J.st N)])/\Nt J i/\(∀w,i.sn w=true↔J.sn w=true\/w∈new)/\(∀w,w∈new↔¬J.sn w=true/\J.ae w=0/\∃u∈dn,U u=w)/\new.Nodup/\l .X=some (me I)/\l .bU=some (.ref b)/\l .eH=some (.ref c)/\l .de=some (.ref p)) (M.1 _ _ (js W)) (jP.nX W.1 W.2) (fh J _ ([]) ([]) (qQ rfl M (by simp only[fQ];exact S) (.gX nt.2) (λw=>⟨.inl,λh=>h.elim id λh=>nomatch h⟩) (λw=>⟨λh=>(nomatch h),λh=>h.2.2.elim λY h=>nomatch h.1⟩) .nil l1 l2 l3 l4)) ?_ ?_ ?_
  .intro ws l A aby;refine gz aby λi g_ new dn abz=>eY abz λe M S j Y=>?_;haveI:=M.1 (.c N) _ (js (by unfold Cn at W⊢;exact B j.f.2.2.2.2.2.2.2.1<|W))
   rwa[j.f.2.2.2.2.2.2.1]at this
  .intro u ws l A EC P2 p2 Y Y;refine gn λC=>gz EC λi g_ new dn ED=>o_ ED λe M S j rE nH kO l1 l2 l3 l4=>o_ j.f λg1 g2 g3 g4 g5 g6 g7 aj7 aj8 aj5 aj6=>C ?_;have ajo:u∈J.cl N:=B e (iW _ (bE ..));have iu:In i (U u):=by unfold In;exact B g1<|(K'.2 N u W ajo).1.fu
   haveI zx:=j.d.1 jP;have yI:=zx.1;have e':J.cl N=(dn++[u])++ws:=by simp only[e,iX];rfl
   have au:∀l:aH,l .d8=some (.int u)->Ev (aA (k+3)) l A (.b1 .abs (.var .d8)) (.int (U u)):=λl h=>fO (O h) rfl;haveI c1:Ev (aA (k+3)) (l.set .d8 (.int u)) A (.eq false (.aQ (.aC (.var .X) .iR) (.b1 .abs (.var .d8))) (.int 0)) (.bool (decide (i.ae (U u)=0) !=false)):=di (eF M (bY M ‹_› rfl rfl) (au _ rfl) rfl yI rfl iu) a8 rfl;haveI c2:Ev (aA (k+3)) (l.set .d8 (.int u)) A (.not (.aQ (.aC (.var .X) .iF) (.b1 .abs (.var .d8)))) (.bool (!i.sn (U u))):=oH (eF M (bY M ‹_› rfl rfl) (au _ rfl) rfl yI rfl iu) rfl;refine bL (gT (dC c1 λY=>dC c2 λY=>hO)) (λw=>?_) λw=>c_ (p2 _ _ ?_).1
   .haveI w:=(jC _ _).mp w;haveI w2:=(jC _ _).mp w.2;haveI h0:J.ae (U u)=0:=aT g4<|jX λq=>by replace w:=(dp q)▸w;cases w.1
    haveI hn:¬i.sn (U u)=true:=λq=>by replace w2:=q▸w2;cases w2.1
    haveI ad0:=λq=>hn ((rE _).mpr (.inl q));haveI ad1:=λq=>hn ((rE _).mpr (.inr q));haveI afi:(jU++new).length<=5:=by
     refine aV (pW (jB.mpr (aS A'.6 kO λa ha b hb q=>((nH b).mp hb).1 (aT q (((A'.5 a).mp ha).1)))) λw hw=>?_) jW;rcases dT.mp hw with hw|hw
     .haveI:=A'.2 w ((A'.5 w).mp hw).1;exact⟨this.1,this.2.1⟩
     .refine br ((nH w).mp hw) λY Y xH=>az xH λG L6=>aU L6 λu1 abe=>?_;clear xH L6;subst abe;exact(K'.2 N G W (B e (lO _ u1))).1.U
    refine kU M gU (bY M ‹_› rfl rfl) (au _ rfl) rfl yI iu wI λA M=>m4 M (O l2) (fO (O rfl) rfl) S.3 (B cj (df afi (iV (bt rfl)))) λA M=>c_ (p2 _ _ ?_).1;rw[j5,iX]at M;refine(fh _ _ (new++[U u]) (dn++[u]) (qQ e' M S.ah0 (j.trans (.sn j.2)) (λv=>?_) (λv=>?_) (jB.mpr ⟨kO,by simp,λa ha b hb q=>ad1 (cL.mp hb▸q▸ha)⟩) l1 l2 l3 l4))
    .show aW i.sn (U u) true v=true↔_;rw[dT,cL];refine dx (v=U u) (λq=>?_) (λq=>?_)
     .exact aT q<|B cU<|⟨λY=>.inr (.inr rfl),λY=>rfl⟩
     .rw[b7 q,rE];exact or_congr Iff.rfl ⟨.inl,λh=>h.resolve_right q⟩
    .rw[dT,cL,nH];constructor
     .rintro(⟨a,b,G,c,d⟩|rfl)
      .exact⟨a,b,G,lO _ c,d⟩
      .exact⟨ad0,h0,u,iW _ (jo u),rfl⟩
     .intro uP;refine gn λC=>br uP λa b AE=>az AE λG AF=>aU AF λc d=>C ?_;rcases dT.mp c with c|c
      .exact .inl ⟨a,b,G,c,d⟩
      .exact .inr (by refine aT d ?_;exact B (cL.mp c) rfl)
   .refine fh i g_ new (dn++[u]) (qQ e' M S j rE (λv=>(nH v).trans ⟨λYX=>br YX λa b WV=>az WV λG WW=>aU WW λc d=>⟨a,b,G,lO _ c,d⟩,λWX=>br WX λa b W3=>az W3 λG W4=>aU W4 λc d=>?_⟩) kO l1 l2 l3 l4);rcases dT.mp c with c|c
    .exact⟨a,b,G,c,d⟩
    .have ev:v=U u:=aT d<|B (cL.mp c) rfl;rw[ev]at a b;replace w:=g4▸w;replace w:=(cO b)▸w;haveI hs:i.sn (U u)=true:=by cases h:i.sn (U u)with|true=>rfl|false=>replace w:=h▸w;injection w
     haveI ad4:=((rE _).mp hs).resolve_left a;exact gn λC=>br ((nH _).mp ad4) λY Y AD=>az AD λG uN=>aU uN λc' d'=>C<|⟨B ev a,B ev b,G,c',d'.trans ev.symm⟩
  .intro l A abE;refine gn λC=>gz abE λi g_ new dn AG=>o_ AG λe M S j rE nH kO l1 l2 l3 l4=>C ?_;rw[fQ]at e;haveI pw:=List.pairwise_append.mp (aT ey hs);haveI ajM:=λq=>(jB.mp (ey▸(hp.nodup_iff.mpr WI))).2.2 _ q _ (bE ..) rfl;refine d9 (p1 _ _ ?_).1;haveI vn:J.val (-y)=1:=by rw[kX vC.1.1,vC.2.1];rfl
   haveI A2:=Ah.next (d3 ag) K' (λf=>d6 (P (aT mf f))) jW A' vC.1.n vn (B dJ (⟨vC.2.2.1,vC.2.2.2⟩)) (B dJ ajM) W (B f7 r2)
    (λu hu hn=>by rw[f7]at hu;rw[nt.val,f5,dJ];exact r3 u hu hn) (λu hu=>?_) (λw hw=>?_) j rE (λw=>(e.symm▸nH) w) kO
   .rw[dJ]at A2;refine(mM i g_ _ _ (done++[U y]) (qQ (by simp only[ey,iX];rfl) M S (nt.trans j) (λw h=>(rE w).mpr (.inl (sm w h))) A2 (by simp only[cx,cx,lp,Nat.add_assoc];rfl) l1 l2 l3 l4))
   .replace hu:=f7▸hu;refine B dJ<|B f4<|Or.elim (r4 u hu) (λh=>?_) (λhY=>Or.elim hY (λh=>?_) λh=>?_)
    .exact .inl h
    .refine dx (u= -y) (λq=>?_) (λq=>?_)
     .exact .inl (by rw[q,dJ])
     .haveI af4:=ag.neg (K.2 N u r1 hu).1 (r3 u hu q).1;haveI:=(ag.6 _ _ af4.2.1).1;rw[dJ]at this;exact .inr (.inl (Int.le_antisymm h this))
    .exact .inr (.inr (sm _ h))
   .exact B dJ<|B f5<|pw.2.2 w hw _ (bE ..)
 .intro l A xK;refine gn λC=>jD xK λJ bj jU m done MH=>o_ MH λey M S nt sm A' lp l1 l2 l3 l4=>?_;clear MH;rw[fQ]at ey;subst ey;exact C<|cI (O ‹_›) (q A J bj p g ys jU m ys M np S nt A' (λw=>hp.mem_iff.trans (gm w)) (B lp (Nat.add_le_add_left Bv _)))
def Sub(Z bj:H):Prop:=∀y o,Z y=some o->bj y=some o
theorem Sub.tr(h:Sub a b)(g:Sub b c):Sub a c:=λy o e=>g y o (h y o e)
theorem Sub.set(h:Sub Z bj)(n:Z a=none):Sub Z (bj.set a o):=mE n h
theorem Sub.dP(h:Sub Z bj)(n:bj a=none):Z a=none:=by
 cases e:Z a with
 |none=>rfl
 |some o=>replace n:=(h a o e)▸n;exact ns n
theorem Sub.ne{Z:H}(h:Z p=some o)(n:Z a=none):p≠a:=λe=>by replace h:=e▸h;replace h:=n▸h;exact nn h
def tS(C:Cx)(l:aH)(I:bT->Nat)(t:T)(Z:H)(e:a7)(E:List V):Prop:=∀b d,Sub Z b->Mem I t b d->∀R:V->H->Prop,(∀a c f,Sub b c->c a=some (.list E)->Mem I t c f->R (.ref a) f)->aB C e l d R
theorem Jq(h:∀b c,Sub Z b->Mem I t b c->fX C l c e E):tS C l I t Z e E:=λb c s M R k=>
 h b c s M _ λa ha=>k a _ _ (Sub.set (λY Y h=>h) (M.dP ha)) H.bC (M.dy (.inl ha))
theorem VK(h:l x=some (.ref p))(hp:Z p=some (.list E)):tS C l I t Z (.var x) E:=λa b s M R k=>O h _ (k p a b (λY Y h=>h) (s _ _ hp) M)
theorem Jp(d:tS C l I t Z a E)(e:tS C l I t Z b ws)(f:E.length+ws.length<=bf):tS C l I t Z (.lA a b) (E++ws):=λg h s M R k=>
 d g h s M _ λp i j s2 m M2=>e i j (s.tr s2) M2 _ λq o r s3 n c=>fh p q E ws (ee rfl rfl (c.3 _ _ (s3 _ _ m)) (c.3 _ _ n) f λa ha=>k a _ _ (Sub.set (s2.tr s3) ((s2.tr s3).dP (c.dP ha))) H.bC (c.dy (.inl ha)))
theorem Vn(M:Mem I t Z A)(g:fX C l A a E)(i:l x=some (.ref q))(hq:Z q=some (.list ws))(j:E.length+ws.length<=bf)(k:∀p bj d,Z p=none->Sub Z bj->bj p=some (.list (E++ws))->Mem I t bj d->R (.ref p) d):aB C (.lA a (.var x)) l A R:=
 g _ λp hp=>by
  have np:=M.dP hp;have c:=M.dy (o:=.list E) (.inl hp);refine O i _ (fh p q E ws (ee rfl rfl (c.3 _ _ H.bC) (c.3 _ _ ((H.a6 (Sub.ne hq np)).trans hq)) j λb f=>?_));haveI nb:=c.dP f;have bp:b≠p:=λe=>by replace nb:=e▸nb;replace nb:=H.bC▸nb;exact ns nb
  rw[H.a6 bp]at nb;exact k b _ _ nb (Sub.set (Sub.set (λY Y h=>h) np) nb) H.bC (c.dy (.inl f))
def XT(C:Cx)(p:Nat)(r:List St)(l:aH)(Q:Fl->aH->H->Prop)(w:V)(A:H):Prop:=∃p' q E ws,V.ref p=.ref p'/\w=.ref q/\p'≠q/\A p'=some (.list E)/\A q=some (.list ws)/\E.length+ws.length<=bf/\Ss C r l (A.set p' (.list (E++ws))) Q
theorem QG(M:Mem I t Z A)(a:Ev C l A o (.ref p))(b:Z p=some (.list E))(h:aB C e l A λw A=>XT C p r l Q w A):Ss C (.expr (.ext o e)::r) l A Q:=a _ ⟨⟨_,rfl,E,M.3 _ _ b⟩,h⟩
theorem Rq(M:Mem I t Z A)(hp:Z p=some (.list E))(hq:Z q=some (.list ws))(b:p≠q)(c:E.length+ws.length<=bf)(k:∀a,Mem I t (Z.set p (.list (E++ws))) a->Ss C r l a Q):XT C p r l Q (.ref q) A:=
 (fh p q E ws (oy rfl rfl b (M.3 _ _ hp) (M.3 _ _ hq) c (k _ (M.dy (.inr ⟨_,hp⟩)))))
theorem PV:gV ps++gW us=gV (ps++ku us):=by refine aT PR ?_;unfold gV;simp only[iJ]
noncomputable def T.ng(t:T)(sn:Int->Bool)(f:Int->Int)(s:Int)(h:List Int)(p:Int->Int)(us:Int->Option Int)(rt:Int)(ps:List (V×List Int×V×V))(pe:Int):T:={t with sn:=sn,ac:=f,hs:=s,hp:=h,pl:=p,us:=us,rt:=rt,ps:=ps,pe:=pe}
def Ng(t J:T):Prop:=∃sn f s h p us rt ps pe,J=t.ng sn f s h p us rt ps pe
theorem Ng.nt(n:Nt t J):Ng t J:=by refine jD n.1 λsn f s h p a=>?_;subst a;exact⟨sn,f,s,h,p,t.us,t.rt,t.ps,t.pe,rfl⟩
theorem Ng.uq(n:Uq t J):Ng t J:=by refine gz n λus rt ps pe a=>?_;try clear n;subst a;exact⟨t.sn,t.ac,t.hs,t.hp,t.pl,us,rt,ps,pe,rfl⟩
theorem Ng.trans(a:Ng t t1)(b:Ng t1 c):Ng t c:=by
 obtain⟨_,_,_,_,_,_,_,_,_,rfl⟩:=a;obtain⟨sn,f,s,h,p,us,rt,ps,pe,rfl⟩:=b;exact⟨sn,f,s,h,p,us,rt,ps,pe,rfl⟩
theorem Ng.f(a:Ng t J):J.n=t.n/\J.tr=t.tr/\J.aa=t.aa/\J.ae=t.ae/\J.S=t.S/\J.R=t.R/\J.cl=t.cl/\J.m=t.m/\J.st=t.st/\J.pf=t.pf/\J.aK=t.aK/\J.ws=t.ws/\J.hd=t.hd:=by
 obtain⟨_,_,_,_,_,_,_,_,_,rfl⟩:=a;exact RC rfl rfl rfl rfl rfl rfl rfl rfl rfl rfl rfl rfl rfl
theorem Ng.d(a:Ng t J):(Bd t->Bd J)/\(lj t->lj J)/\(cB t->cB J)/\(fY t->fY J)/\(dY t->dY J):=by
 refine gn λc=>?_;obtain⟨_,_,_,_,_,_,_,_,_,rfl⟩:=a;exact c<|(e_ (λb=>⟨b.1,b.2,b.3,b.4,b.5,b.6⟩) (λb=>⟨b.1,b.2,b.3⟩) (λb=>⟨b.1,b.2,b.3,b.4,b.5,b.6⟩) (λb=>⟨b.1⟩) λb=>⟨b.1,b.2⟩)
theorem Uq.hp(u:Uq t J)(h:Hp t):Hp J/\J.pl=t.pl/\J.sn=t.sn:=by
 refine gz u λY Y Y Y a=>?_;try clear u
 subst a;exact aS ⟨h.1,h.2,h.3,h.4⟩ rfl rfl
theorem Nt.en(a:Nt t J)(aB:gO W t):gO W J:=by refine jD a.1 λY Y Y Y Y b=>?_;subst b;exact⟨aB.1,aB.2⟩
theorem Nt.ps(a:Nt t J):J.ps=t.ps/\J.rt=t.rt:=by refine jD a.1 λY Y Y Y Y b=>?_;subst b;exact⟨rfl,rfl⟩
def Hh(t J:T)(a x:Int)(de:List Int)(pr:List (Int×Option Int)):Prop:=y0
 (Ng t J)
 (Hp J)
 (∀v,0<=J.pl v↔0<=t.pl v)
 (∀v,J.sn v=false)
 (J.pf=true->ek J)
 (J.ps.length+t.rt<=t.ps.length+J.rt)
 (∀W,Wo W->gO W t->gO W J)
 (Ac J a pr λw=>∃y∈-x::de,U y=w)
 (a9 J x/\J.val x=1/\J.ae (U x)≠0/\J.ae (U x)=J.aK.length)
 (de.Nodup)
 (∀y∈de,a9 J y/\J.val y= -1/\J.ae (U y)≠0/\J.ae (U y)≠J.aK.length)
 (pr.length<=20)
def Wp(t J:T)(done:List Int):Prop:=Q3
 (Nt t J)
 (J=t.jV J.sn)
 (∀w,J.sn w=true↔t.sn w=true/\w∉done)
theorem Wp.next{t J:T}{done:List Int}{v:Int}(w:Wp t J done):Wp t (J.jV (aW J.sn v false)) (done++[v]):=
 ⟨w.1.trans (.sn w.1.2),by refine B w.2 ?_;rfl,λu=>by
   show aW J.sn v false u=true↔_;rw[dT,cL];refine dx (u=v) (λe=>?_) (λe=>?_)
   .exact aT e<|B cU<|⟨λh=>nf h,λh=>absurd (.inr rfl) h.2⟩
   .rw[b7 e,w.3];exact and_congr Iff.rfl ⟨λh q=>q.elim h e,λh q=>h (.inl q)⟩⟩
theorem D'(b:∀(l:aH) (v:V),(l.set y v) .X=l .X)(M:Mem I t Z A)(j:t.n<=5)(hp:Hp t)(m:Z p=some (.list (Zl xs)))(x:xs.length<=bf)(o:∀v∈xs,In t v)(z:l .X=some (me I))(a:aH->Prop)(hf:a l)(G:∀l v,a l->a (l.set y v))(k:∀l s J,l .X=some (me I)->a l->Mem I J Z s->Wp t J xs->Ss C r l s Q):
 tU C y [.fK (.aC (.var .X) .iF) (.var y) (.bool false)] r l Q (.ref p) A:=by
 refine nF (λE l A=>∃J done,xs=done++E/\Mem I J Z A/\Wp t J done/\l .X=some (me I)/\a l) (M.3 _ _ m) x (cE t ([]) (e_ rfl M (⟨.gX hp,by clear M j hp o k;cases t;rfl,λw=>⟨λh=>⟨h,λq=>gh q⟩,λh=>h.1⟩⟩) z hf)) (λE l A L=>cF L λJ done N=>br N λY M Y=>M.3 _ _ m) ?_ ?_
 .intro v E l A c P R Y Y;refine cF c λJ done d=>eY d λe M w g hf=>?_;haveI W:In J v:=by unfold In;exact B w.1.f.1<|o v (B e (iW _ (bE ..)))
  haveI t5:J.n<=5:=B w.1.f.1 j;haveI l2:=(b l (.int v)).trans g;refine kU M gU (bY M ‹_› rfl rfl) (O (bA rfl)) rfl t5 W wI λA M=>d9 (R _ _ ?_).1;exact(cE _ (done++[v]) (e_ (by simp only[e,iX];rfl) M w.next l2 (G _ _ hf)))
 .intro l A i;refine cF i λJ done u=>eY u λe M w g hf=>?_;clear u;rw[fQ]at e;subst e;exact k l A J g hf M w
def ajS(I a:bT->Nat):Prop:=ph I a
theorem Ah.bR(o:cB t)(aa:Ah t u x aY bU fZ pr)(j:∀y,y∈de↔y∈aY/\U y∉fZ)(w:Int):(∃y∈-x::de,U y=w)↔(t.sn w=true/\w∉fZ)/\t.ae w≠0:=by
 constructor
 .intro k;refine az k λy l=>aU l λp g=>?_;clear l;try clear k
  subst g;rcases dW.mp p with e|h
  .exact B e<|B dJ<|⟨⟨aa.9.2.2.1,λq=>(aa.7 _ q).2.2 aa.9.2.2.2.2⟩,aa.9.2.2.2.1⟩
  .have d:=(j y).mp h;have r:=d.1;have s:=d.2;haveI:=(aa.3 y).mp r;exact⟨⟨this.2.2.1,s⟩,this.2.2.2.1⟩
 .intro i;refine aU i λm c=>?_;haveI a:=m.1;haveI b:=m.2;rcases cY (t.ae w=t.aK.length)with e|e
  .exact⟨-x,bE ..,B dJ ((aa.10 w a c e).symm)⟩
  .have d:=aa.2 w a;have s1:=d.1;haveI s2:=d.2.1;haveI s3:=d.2.2;haveI n:=xf o.tv s1 s2 s3;haveI f1:=n.1;haveI f2:=n.2;haveI f:=sU s1 s2;exact⟨t.fz w,cP _ ((j _).mpr ⟨(aa.3 _).mpr (cg f1 f2 (B f a) (B f (⟨c,e⟩))),B f b⟩),f⟩
def RT(C:Cx)(a:a7)(l:aH)(Q:Fl->aH->H->Prop)(v:V)(A:H):Prop:=Es C [a] l A λE A=>Q (.ret (.aE (v::E))) l A
theorem aiK(h:aB C a l A λv A=>RT C b l Q v A):Ss C (.ret (.aE [a,b])::r) l A Q:=h
theorem ahI(h:Ev C l A a w)(k:Q (.ret (.aE [v,w])) l A):RT C a l Q v A:=h _ k
theorem R3(M:Mem I t Z A)(b:Bd t)(z:lj t)(ag:cB t)(R:fY t)(K:dY t)(hp:Hp t)(P:t.pf=true->ek t)(hc:Cn t c0)(hf:∀x∈t.cl c0,t.val x= -1)(hs:∀w,t.sn w=false)(hD:∃x∈t.cl c0,t.ae (U x)=t.aK.length)(D0:t.aK.length≠0)
 (q:∀af bD J bj p c x de pr,ph I bD->Mem bD J bj af->bj p=some (.list (Zl (-x::de)))->bj c=some (.list (gV pr))->Z p=none->Z c=none->p≠c->Sub Z bj->Hh t J c0 x de pr->Q (.aE [.ref p,.ref c]) af):aA (k+8) .Hw [me I,.int c0] A Q:=by
 refine⟨_,rfl,R0 M b z ag R K hp P hc hf hs hD D0 rfl rfl λl A fM t1 gI ra rb rc rd aY bU done pr i x ae hx sx lx=>?_⟩;haveI o:=ae.1;haveI m:=ae.2;haveI M:=ae.3;haveI j:=ae.4;haveI aa:=ae.5;haveI il:=ae.6;haveI pl:=ae.7;haveI l1:=ae.8;haveI l2:=ae.9;haveI l3:=ae.10;haveI l4:=ae.11;haveI l5:=ae.12;haveI d1:=m.d.1;have d2:=m.d.2.1;haveI d3:=m.d.2.2.1;have d4:=m.d.2.2.2.1;have d5:=m.d.2.2.2.2.1;haveI d6:=m.d.2.2.2.2.2;haveI mf:=m.f.2.2.2.2.2.2.2.2.2.1;have zw:=d1 b;haveI t5:=zw.1;have J1:=d3 ag;refine br (An.qq t5 aa) λN FL yl=>?_;haveI Bf:=l1.trans (aP (λp=>some (V.ref p)) (o (.ob .aO) λh=>bT.ne rfl h).symm);refine kR (O l5 _ ?_);refine D' (λY Y=>rfl) M t5 m.2 j.4 (aV yl (bt rfl)) (λw hw=>by haveI:=aa.2 w (aa.7 w hw).1;exact⟨by lia,this.2.1⟩) Bf (λl=>l .aY=some (.ref ra)/\l .bU=some (.ref rb)/\l .eH=some (.ref rc)/\l .lit=some (.int x)) (cg l2 l3 l4 lx) (λY Y h=>h) λl A X l1 Xh M w2=>eI Xh λl2 l3 l4 lx=>?_
 have H2:=An.ah J1 aa hx sx m.2 w2.1 w2.3;have n:=w2.1;have e1:=n.d.1;have e2:=n.d.2.1;have e3:=n.d.2.2.1;have e4:=n.d.2.2.2.1;have e5:=n.d.2.2.2.2.1;have e6:=n.d.2.2.2.2.2;have zx:=e1 zw;have PM:pr.length<=20:=B pl (aV yl (by decide))
 have P2:=λf=>e6 (d6 (P (aT mf<|n.f.2.2.2.2.2.2.2.2.2.1▸f)));refine gF (iP M (O ‹_›) bb (aI (O ‹_›) (aI (O ‹_›) (aI (O ‹_›) aX))) (ah8 M zx (e2 (d2 z)) (e3 J1) (e4 (d4 R)) (e5 (d5 K)) n.2 P2 H2 j.1 j.2 j.3 j.8 PM λA t3 jc p g ys jU kP fZ M np S r e adP FR=>?_));have g1:=r.d.1;have g2:=r.d.2.1;have g3:=r.d.2.2.1;have g4:=r.d.2.2.2.1;have g5:=r.d.2.2.2.2.1;have g6:=r.d.2.2.2.2.2;have Dj:=g1 zx;haveI P3:=λf=>g6 (P2 (r.f.2.2.2.2.2.2.2.2.2.1▸f));have J3:=g3 (e3 J1);obtain⟨m1,m2⟩:=e.qq Dj.1;haveI aiX:=λy o h=>S.10 y o (Sub.ne h j.12) (Sub.ne h j.13) (j.15 y o h);refine QG M (O ‹_›) S.4 (iP M (O ‹_›) bb (aI (O ‹_›) aX) (Gz M Dj (g2 (e2 (d2 z))) J3 (g4 (e4 (d4 R))) (g5 (e5 (d5 K))) P3 (.inl S.3) (df m2 (by decide)) (λw hw=>?_) λA t4 a us na M gr P4 hq h0 h1 qt=>?_))
 .refine gn λkG=>?_;obtain⟨s1,s2⟩:=(e.5 w).mp hw;haveI C:=e.2 w s1;haveI h2:=C.2.1;haveI h3:=C.2.2;exact az (J3.v ⟨by lia,h2⟩ h3) λy abI=>br abI λy1 y2 Y=>kG<|(cE _ y (aS y1 y2 s2))
 haveI qt:=aV qt m2;haveI ca:=Sub.ne S.4 na;refine Rq M ((H.a6 ca).trans S.4) H.bC ca (by simp only[gV,gW,b9,b9];exact aV (Nat.add_le_add (aV FR (Nat.add_le_add_right PM 5)) qt) (bt rfl)) λA M=>?_
 rw[PV]at M;haveI u1:=gr.1.d.1;haveI u3:=gr.1.d.2.2.1;haveI u4:=gr.1.d.2.2.2.1;haveI u5:=gr.1.d.2.2.2.2;haveI Ih:=u1 Dj;haveI v4:=gr.1.f;haveI s_:=gr.1.hp r.2;haveI Rw:=e.1.gr gr;have kk:∀y,y∈(aY.filter λy=>!X.im y)↔y∈aY/\U y∉fZ:=λy=>by
  rw[dU,lT,adP];constructor
  .rintro⟨a,b⟩;refine⟨a,λXi=>az Xi λu Xj=>br Xj λu1 u2 u3=>?_⟩;haveI r1:=(H2.3 u).mp u1;haveI r2:=(H2.3 y).mp a;replace u2:=(oI r1.1 r1.2.1 r2.2.1 u3)▸u2;replace u2:=b▸u2;exact nf u2
  .rintro⟨a,b⟩;refine⟨a,?_⟩;cases h:X.im y with
   |false=>rfl
   |true=>exact absurd ⟨y,a,h,rfl⟩ b
 haveI bR:=e.bR J3 kk;haveI RP:=Ac.bU (p':=λw=>∃y∈-x::(aY.filter λy=>!X.im y),U y=w) (u3 J3) (u4 (g4 (e4 (d4 R)))) (u5 (g5 (e5 (d5 K)))) Ih.1 Rw (λf=>h0 (v4.2.2.2.2.2.2.2.2.2▸f)) (λf=>h1 (v4.2.2.2.2.2.2.2.2.2▸f)) e.6 (λv=>by
  rw[e.5,v4.2.2.2.1];exact⟨λXk=>aU Xk λa b=>⟨⟨a,λq=>(e.7 _ q).2.1 b⟩,b⟩,λXl=>aU Xl λa b=>⟨a.1,b⟩⟩) (λw=>by rw[bR,v4.2.2.2.1])
 generalize xY:(jc.set a (bN.list (gW us))).set rc (bN.list (gV (kP++ku us)))=jL at M;have sC:∀{y o},y≠rc->jc y=some o->jL y=some o:=λ{y o} h1 h2=>aT xY<|B (H.a6 h1)<|B (H.a6 (Sub.ne h2 na))<|h2;haveI yw:jL rc=some (.list (gV (kP++ku us))):=aT xY<|H.bC;haveI BP:=sC j.6 (S.10 _ _ j.5 j.6 j.1);haveI ahv:=sC j.8 S.3;haveI p4:=sC S.7 S.1;haveI Cb:Sub Z jL:=λy o h=>sC (Sub.ne h j.13) (aiX y o h);haveI lb:∀{xs:List Int},xs.length<=5->(Zl xs).length<=bf:=λh=>B cj (aV h (bt rfl));haveI em:(Zl aY).map (nO U)=Zl (aY.map U):=by
  show(aY.map V.int).map _=(aY.map U).map V.int;simp only[fk,fk];rfl
 haveI en:tS (aA (k+7)) (l.set .de (.ref p)) fM t4 jL (.lA (.lA (.dj [.b1 .abs (.var .lit)]) (.comp (.b1 .abs (.var .d8)) false [.d8] .seq [.var .aY] [])) (.var .bU)) (([.int (U x)]++Zl (aY.map U))++Zl jU):=by
  refine Jp (Jp (Jq λgI ka s M=>sS (aI (fO (O ‹_›) rfl) aX)) (Jq λgI ka s M=>em▸sT (O ‹_›) (M.3 _ _ (s _ _ BP)) (lb N) λv hv=>by
   obtain⟨y,_,rfl⟩:=cW.mp hv;exact fO (O rfl) rfl) ?_) (VK l3 ahv) ?_
  .rw[cj,b9];exact aV (Nat.add_le_add (dR 1) N) (bt rfl)
  .simp only[cx,cj,cj,b9];exact aV (Nat.add_le_add (Nat.add_le_add (dR 1) N) m2) (bt rfl)
 refine kR (en jL A (λY Y h=>h) M _ λa5 akI A s5 DP M=>?_);haveI ex:([V.int (U x)]++Zl (aY.map U))++Zl jU=Zl (U x::aY.map U++jU):=by
  unfold Zl;simp only[iJ];rfl
 replace DP:=ex▸DP;have ahX:∀w,t4.sn w=true->w∈U x::aY.map U++jU:=λw h=>by
  replace h:=s_.2.2▸h;rw[dT,dW,cW];refine dx (t3.ae w=0) (λc1=>?_) (λc1=>?_)
  .exact .inr ((e.5 w).mpr ⟨h,c1⟩)
  .refine dx (t3.ae w=t3.aK.length) (λc2=>?_) (λc2=>?_)
   .exact .inl (.inl (e.10 w h c1 c2))
   .have C:=e.2 w h;have s1:=C.1;have s2:=C.2.1;haveI s3:=C.2.2;haveI C:=xf J3.tv s1 s2 s3;haveI q1:=C.1;haveI q2:=C.2;haveI q3:=sU s1 s2;exact .inl (.inr ⟨_,(e.3 _).mpr (cg q1 q2 (B q3 h) (B q3 (⟨c1,c2⟩))),q3⟩)
 have lw:(U x::aY.map U++jU).length<=bf:=by
  simp only[cx,lQ,b9];exact aV (Nat.add_le_add (Nat.succ_le_succ N) m2) (bt rfl)
 refine D' (λY Y=>rfl) M Ih.1 s_.1 DP lw (λw hw=>?_) l1 (λl=>l .lit=some (.int x)/\l .de=some (.ref p)/\l .eH=some (.ref rc)) (aS lx rfl l4) (λY Y h=>h) λl A jW l1 Xm M w5=>br Xm λlx l6 ae3=>?_
 .haveI i3:In t3 w:=by
   rcases dT.mp hw with h|h
   .rcases dW.mp h with h|h
    .exact B h e.9.1.fu
    .obtain⟨y,y1,rfl⟩:=cW.mp h;exact((e.3 y).mp y1).1.fu
   .haveI:=e.2 w ((e.5 w).mp h).1;exact⟨by lia,this.2.1⟩
  unfold In at i3⊢;exact B v4.1<|i3
 have E:=w5.1;haveI aif:∀v,jW.sn v=false:=λv=>by
  cases h:jW.sn v with
  |false=>rfl
  |true=>haveI:=(w5.3 v).mp h;exact absurd (ahX v this.1) this.2
 haveI lk:(aY.filter λy=>!X.im y).length<=5:=aV (lP ..) N;have G:=(Ng.uq gr.1).trans (.nt E);haveI L:=G.f;have Gl:∀y,a9 jW y↔a9 t3 y:=λy=>by unfold a9;rw[L.1]
 have Gv:∀y,jW.val y=t3.val y:=λy=>by unfold T.val;exact L.2.2.1▸rfl
 refine aiK (Vn M (sS (aI (ig (O ‹_›) rfl) aX)) l6 (s5 _ _ p4) (B cj (aV (Nat.add_le_add (dR 1) lk) (bt rfl))) λaha ajO A Pc s6 Vm M=>ahI (O ‹_›) ?_);refine q A fM jW ajO aha rc x (aY.filter λy=>!X.im y) (kP++ku us) o M Vm (s6 _ _ (s5 _ _ yw)) (Sub.dP (Cb.tr s5) Pc) j.13 (cQ (Sub.ne (s5 _ _ yw) Pc)) ((Cb.tr s5).tr s6) ⟨((((Ng.nt m).trans (.nt n)).trans (.nt r)).trans (.uq gr.1)).trans (.nt E),E.2,λv=>?_,aif,λf=>?_,?_,λW w aB=>E.en (gr.3 W w (r.en (n.en (m.en aB)))),RP.nt E,?_,e.4.filter _,λy hy=>?_,?_⟩
 .rw[E.3,s_.2.1,r.3,n.3,m.3]
 .refine E.d.2.2.2.2.2 (P4 ?_);exact L.2.2.2.2.2.2.2.2.2.1▸f
 .exact E.ps.1▸E.ps.2▸m.ps.1▸m.ps.2▸n.ps.1▸n.ps.2▸r.ps.1▸r.ps.2▸hq
 .simp only[Gl,Gv,L.2.2.2.1,L.2.2.2.2.2.2.2.2.2.2.1];exact aS e.9.1 e.9.2.1 e.9.2.2.2
 .simp only[Gl,Gv,L.2.2.2.1,L.2.2.2.2.2.2.2.2.2.2.1];haveI:=(e.3 y).mp ((kk y).mp hy).1;exact aS this.1 this.2.1 this.2.2.2
 .haveI lp:(ku us).length=us.length:=b9 _;refine B cx<|B lp ?_;lia
theorem zC(C:m8 t s f g h p)(a:a9 t x):(t.dh f g u h p s lv).val x=if s<=t.S (U x)then 0 else t.val x:=by
 haveI e:(t.dh f g u h p s lv).aa (U x)=f (U x):=rfl;rw[lM,e,C.1 _ a.fu,lM]
 split<;>split<;>rfl
theorem l7{lv:Nat}(c:cB t)(hs:t.aK[lv]? =some s){i:Nat}(d:t.tr[i]? =some x):(i:Int)<s↔t.ae (U x)<=lv:=by
 have h:=(c.6 i x d).2.2 lv s hs;exact⟨λa=>Int.not_lt.mp λb=>absurd (h.mp b) (Int.not_le.mpr a),λa=>Int.not_le.mp λb=>absurd (h.mpr b) (Int.not_lt.mpr a)⟩
set_option tactic.hygienic true in
theorem cB.dh(l:cB t)(hs:t.aK[lv]? =some s)(C:m8 t s f g h p):cB (t.dh f g u h p s lv):=by
 refine br (l.5 lv s hs) λs0 s1 s2=>?_;have n:∀{i:Nat} {x:Int},(t.dh f g u h p s lv).tr[i]? =some x↔i<s/\t.tr[i]? =some x:=λ{i x}=>by
  show(t.tr.take s.toNat)[i]? =some x↔_;refine B List.getElem?_take ?_;constructor
  .intro q;split at q
   .rename_i z;exact⟨by lia,q⟩
   .exact nn q
  .rintro⟨a,b⟩;exact B (bA (by lia)) b
 have es:∀{j:Nat} {d:Int},(t.dh f g u h p s lv).aK[j]? =some d↔j<lv/\t.aK[j]? =some d:=λ{j d}=>by
  show(t.aK.take lv)[j]? =some d↔_;refine B List.getElem?_take ?_;constructor
  .intro q;split at q
   .rename_i z;exact⟨z,q⟩
   .exact nn q
  .rintro⟨a,b⟩;exact B (bA a) b
 haveI lt:(t.dh f g u h p s lv).tr.length=s.toNat:=by
  show(t.tr.take s.toNat).length=_;refine k9.trans ?_;lia
 haveI ls:(t.dh f g u h p s lv).aK.length=lv:=by
  show(t.aK.take lv).length=_;refine k9.trans ?_;have:=(fR.mp hs).1;lia
 refine⟨λv o=>?_,?_,λi x e=>?_,λx r e=>?_,λj d e=>?_,λi x e=>?_⟩
 .show f v=0\/f v=1\/f v= -1;refine B ((C.1 v o)) ?_;split
  .exact .inl rfl
  .exact l.1 v o
 .show f 0=0;refine B (C.1 0 ⟨g8 _,fE _⟩)<|B l.2 ?_;split<;>rfl
 .obtain⟨a,b⟩:=n.mp e;haveI k:=l.3 i x b;haveI c:=k.1;haveI d:=k.2.1;haveI e:=k.2.2;exact(aS c (by rw[zC C c,e,bx (by lia)];exact d) e)
 .rw[zC C r]at e
  split at e
  .exact absurd e (by decide)
  .rename_i z
   exact aU (l.4 x r e) λa b=>⟨a,n.mpr ⟨by show((t.S (U x)).toNat)<s;lia,b⟩⟩
 .obtain⟨a,b⟩:=es.mp e;haveI k:=l.5 j d b;haveI c:=k.1;have m:=k.2.2;refine(aS c (by rw[lt];haveI:=m lv s hs (c9 a);lia) λw y q A=>m w y (es.mp q).2 A)
 .obtain⟨a,b⟩:=n.mp e;haveI k:=l.6 i x b;haveI c:=k.1;haveI m:=k.2.2;exact aS c (B ls ((l7 l hs b).mp a)) λj d q=>m j d (es.mp q).2
theorem pF(C:m8 t s f g h p)(a:a9 t x)(b:t.S (U x)<s):(t.dh f g u h p s lv).val x=t.val x:=B (zC C a)<|B (bx (by lia)) rfl
set_option tactic.hygienic true in
theorem fY.dh(R:fY t)(n:cB t)(K:dY t)(hs:t.aK[lv]? =some s)(C:m8 t s f g h p):fY (t.dh f g u h p s lv):=by
 refine⟨λi x e=>?_⟩;replace e:=List.getElem?_take▸e
 split at e
 .rename_i z
  haveI hi:i<s:=by lia
  haveI k:=n.3 i x e;haveI a:=k.1;haveI b:=k.2.1;haveI c:=k.2.2;haveI o:(t.dh f g u h p s lv).R (U x)=t.R (U x):=C.2 _ a.fu (by lia)
  refine o▸(R.1 i x e).imp (λ⟨q,j,r,v⟩=>⟨q,j,r,?_⟩) λ⟨q1,w,l⟩=>aS q1 w λy d m=>⟨?_,(l y d m).2⟩
  .show(t.aK.take lv)[j]? =_;rw[List.getElem?_take,bA]
   .exact v
   .have:=(l7 n hs e).mp hi;lia
  .exact B (pF C (K.2 _ y q1 d).1 (by have:=(l y d m).2;lia)) ((l y d m).1)
 .exact nn e
theorem j0.dh(V:j0 t hh λY Y=>False)(i:cB t)(K:dY t)(hs:t.aK[lv]? =some s)(C:m8 t s f g h p)(v:s<=hh):j0 (t.dh f g u h p s lv) s λY Y=>False:=λc a b r k e x w hu j d=>by
 haveI e:t.cl c=a::b::r:=e;have l:x∈t.cl c/\w∈t.cl c:=by refine B e ?_;rcases hu with⟨rfl,rfl⟩|⟨rfl,rfl⟩<;>simp
 have m:=(K.2 c x k l.1).1;have lw:=(K.2 c w k l.2).1;haveI d:t.S (U x)<s:=d;have j:=(pF C m d)▸j;refine aU ((V c a b r k e x w hu j (Int.lt_of_lt_of_le d v)).resolve_left id) λn o=>?_;haveI q:=i.neg m j;haveI y:=i.4 w lw n;haveI lt:=(l7 i hs q.2.1).mp (B (Int.toNat_of_nonneg q.1) d);rw[dJ]at lt;haveI:=(l7 i hs y.2).mpr (fp o lt);exact .inr ⟨(pF C lw (Int.lt_of_le_of_lt (Int.self_le_toNat _) this)).trans n,o⟩
theorem ek.dh(P:ek t)(a:cB t)(hs:t.aK[lv]? =some s)(C:m8 t s f g h p):ek (t.dh f g u h p s lv):=by
 refine br (a.5 lv s hs) λs0 s1 s2=>?_;have rs:t.rt<=s:=Int.not_lt.mp λq=>by
  have o:s.toNat<t.tr.length:=by haveI:=P.6;lia
  have b:=dZ o;generalize t.tr[s.toNat]=x at b;obtain⟨v,d⟩:=P.7 _ x (by lia) b
  refine az (P.4 _ v (a.3 _ x b).1.fu d) λy l=>eY l λc j k m Y=>?_;clear l;have:=(l7 a hs b).mpr (by lia)
  lia
 refine⟨P.1,P.2,P.3,λv x d e=>?_,P.5,?_,λi x hi e=>?_,P.8⟩
 .refine az (P.4 v x d e) λy n=>eY n λc j k m r=>?_;clear n;haveI w:=a.4 y c k;haveI:=(l7 a hs w.2).mpr (by refine B j ?_;lia)
  exact(cR y (e_ c j ((pF C c (by lia)).trans k) m r))
 .show t.rt<=(t.tr.take s.toNat).length;refine B k9 ?_;lia
 .replace e:=List.getElem?_take▸e
  split at e
  .exact P.7 i x hi e
  .exact nn e
theorem Bd.dh(b:Bd t):Bd (t.dh f g u h p s lv):=⟨b.1,aV (by show(t.tr.take _).length<=_;exact B k9 (Nat.min_le_right _ _)) b.2,aV (by show(t.aK.take _).length<=_;exact B k9 (Nat.min_le_right _ _)) b.3,b.4,b.5,b.6⟩
set_option tactic.hygienic true in
theorem kE.dh(a:cB t)(hs:t.aK[lv]? =some s)(hh:s<=t.hd):kE (t.dh f g u h p s lv) s/\(t.dh f g u h p s lv).hd=s/\(t.dh f g u h p s lv).tr.length=s.toNat:=by
 refine br (a.5 lv s hs) λs0 s1 s2=>?_;haveI lt:(t.dh f g u h p s lv).tr.length=s.toNat:=by
  show(t.tr.take s.toNat).length=_;refine k9.trans ?_;lia
 refine(aS ⟨s0,by refine B lt ?_;lia,λj d e=>?_⟩ (Int.min_eq_right hh) lt)
 replace e:=List.getElem?_take▸e
 split at e
 .rename_i z;exact(a.5 j d e).2.2 lv s hs (c9 z)
 .exact nn e
theorem Jj(M:Mem I t Z A)(h:Ev C l A o (.ref (I (.ob c))))(lv:jJ c t.pf .code≠none)(d:fX C l A e E)(k:∀a b,Z a=none->Mem I t (Z.set a (.list E)) b->C f [.ref (I (.ob c)),.ref a] b R):aB C (.aZ o c f [e]) l A R:=
 h _ ⟨d_ _ _ _ (aS rfl ((M.ob c lv).1) ((M.ob c lv).2)),d _ λa ha=>k a _ (M.dP ha) (M.dy (.inl ha))⟩
def SA(C:Cx)(o:a7)(n:Nm)(r:List St)(l:aH)(Q:Fl->aH->H->Prop)(v:V)(A:H):Prop:=aB C o l A λw A=>∃p c d aF,w=.ref p/\A p=some (.dB c d)/\A d=some (.cM c aF)/\aF.length<=900/\c.has n=true/\Ss C r l (A.set d (.cM c (gD aF n v))) Q
theorem vI(h:aB C e l A λv A=>SA C o n r l Q v A):Ss C (.cV o n e::r) l A Q:=h
theorem vD(M:Mem I t Z A)(a:Ev C l A o (.ref (I (.ob c))))(lv:jJ c t.pf .code≠none)(ch:eZ I t J (.at c) (.cM c (gD (kv I t c) n v)))(hh:c.has n=true)(k:∀b,Mem I J Z b->Ss C r l b Q):SA C o n r l Q v A:=
 a _ (fh _ c _ _ (ee rfl ((M.ob c lv).1) ((M.ob c lv).2) (by clear a lv ch hh;cases c<;>exact bt rfl) hh (k _ (M.set (.at c) (qx lv) ch.1 ch.2))))
open Classical in
theorem Wn{t:T}(h:∀w,¬p w):t.fl p=[]:=by
 unfold T.fl;rw[List.filter_eq_nil_iff.mpr λv Y=>by rw[k6];exact h v];rfl
theorem Lg.pf(h:Lg t J c s)(P:ek t)(b:c.length<30/\∀x∈c,a9 t x)(sl:(t.ps.length:Int)+1<=14000000+t.rt)(hs:∀s,Sn t s->Sn J s/\J.cs s=t.cs s):ek J:=by
 have w:=h.new (P:=λc=>c.length<30/\∀x∈c,a9 t x) b P.2;have ln:=h.len;have e:J.pf=t.pf/\J.rt=t.rt/\J.us=t.us/\J.tr=t.tr/\(∀c,Cn J c↔Cn t c)/\J.st=t.st/\J.cl=t.cl/\(∀v,In J v↔In t v)/\(∀x,a9 J x↔a9 t x)/\(∀x,J.val x=t.val x)/\J.ae=t.ae:=by
  clear hs w ln;rcases h.1 with rfl|⟨pr,nt,e,rfl⟩
  .exact qQ rfl rfl rfl rfl (λY=>Iff.rfl) rfl rfl (λY=>Iff.rfl) (λY=>Iff.rfl) (λY=>rfl) rfl
  .exact qQ rfl rfl rfl rfl (λY=>Iff.rfl) rfl rfl (λY=>Iff.rfl) (λY=>Iff.rfl) (λY=>rfl) rfl
 haveI p:=e.1;haveI a:=e.2.1;have j:=e.2.2.1;haveI k:=e.2.2.2.1;haveI q:=e.2.2.2.2.1;have r:=e.2.2.2.2.2.1;have u:=e.2.2.2.2.2.2.1;haveI z:=e.2.2.2.2.2.2.2.1;have m:=e.2.2.2.2.2.2.2.2.1;haveI A:=e.2.2.2.2.2.2.2.2.2.1;haveI C:=e.2.2.2.2.2.2.2.2.2.2;refine⟨p.trans P.1,λs hs=>⟨(w s hs).1,λx E=>(m x).mpr ((w s hs).2 x E)⟩,λc b=>?_,λv s G hu=>?_,B a P.5,by rw[a,k];exact P.6,λi l hi n=>?_,by refine B a ?_;lia⟩
 .exact gn λd=>az (P.3 c ((q c).mp b)) λs f=>eI f λs1 s2 s3 s4=>d<|(cR s (cg (B r s1) ((hs s s2).1) (B ((hs s s2).2) s3) (by refine B ((hs s s2).2)<|B u<|s4)))
 .rw[j]at hu;exact gn λd=>az (P.4 v s ((z v).mp G) hu) λy g=>iM g λI L M N o Q=>d<|(cR y (ee ((m y).mpr I) L ((A y).trans M) (B C N) ((hs s o).1) ((hs s o).2.trans Q)))
 .refine B j ?_;rw[a]at hi;rw[k]at n;exact P.7 i l hi n
def Rz(t J:T)(a:Int)(x:Option Int):Prop:=Q6
 (Gr t J)
 (t.pf=true->ek J)
 (J.ps.length+t.rt<=t.ps.length+J.rt+1)
 (t.pf=false->x=t.st a)
 (t.pf=true->∃s,x=some s/\Sn J s/\J.cs s=[])
 (∀W,Wo W->gO W t->∀h,¬W h)
theorem JQ(M:Mem I t Z A)(b:Bd t)(z:lj t)(p:cB t)(R:fY t)(K:dY t)(P:t.pf=true->ek t)(sl:t.pf=true->(t.ps.length:Int)+1<=14000000+t.rt)(g:Cn t c)(hf:∀x∈t.cl c,t.val x= -1/\t.ae (U x)=0)
 (q:∀N J x,Mem I ((J.sQ x).Gb false) Z N->Rz t J c x->Q .none N):aA (k+8) .CU [me I,.int c] A Q:=by
 haveI lc:=b.5 c g.1 g.2;haveI em:(Zl (t.cl c)).map (nO U)=Zl ((t.cl c).map U):=by
  show((t.cl c).map V.int).map _=((t.cl c).map U).map V.int;simp only[fk,fk];rfl
 haveI n1:fX (aA (k+7)) ((aH.set (λY=>none) .X (me I)).set .bO (.int c)) A (.comp (.b1 .abs (.var .lit)) false [.lit] .seq [.aQ (.aC (.var .X) .fS) (.var .bO)] []) (Zl ((t.cl c).map U)):=em▸sT (mc M b (bY M rfl rfl rfl) (O rfl) g) (M.1 _ _ (js g)) (B cj (b.nX g.1 g.2)) λv u=>by
  refine az (cW.mp u) λy MJ=>aU MJ λY C=>?_;clear MJ;subst C;exact fO (O rfl) rfl
 haveI C0:=Ac.mD p.tv K P g λx j=>(hf x j).1;haveI nd:=rP (K.1 c g) λx j y m e=>oI (K.2 c x g j).1 (hf x j).1 (hf y m).1 e;have l5:((t.cl c).map U).length<=5:=by rw[b9];exact lc
 refine⟨_,rfl,gF (Jj M (O rfl) bb n1 λa A na M=>Gz M b z p R K P (.inl H.bC) (df l5 (by decide)) (λv u=>?_) λA i d us E M gr P2 hq h0 r qt=>?_)⟩
 .refine az (cW.mp u) λx Kn=>aU Kn λj Y2=>?_;clear Kn;subst Y2;haveI xw:=hf x j;haveI r:=xw.1;haveI h2:=xw.2;haveI n:=p.neg (K.2 c x g j).1 r;exact cE _ (-x) (aS n.2.1 dJ h2)
 .haveI v:=gr.1.f;haveI dd:=gr.1.d;have b2:=dd.1 b;haveI oL:Cn i c:=by unfold Cn at g⊢;exact B v.2.2.2.2.2.2.2.1<|g
  have ac:=Ac.bU (dd.2.2.1 p) (dd.2.2.2.1 R) (dd.2.2.2.2 K) b2.1 (C0.gr gr) (λf=>h0 (aT v.2.2.2.2.2.2.2.2.2 f)) (λf=>r (aT v.2.2.2.2.2.2.2.2.2 f)) nd (λw=>by
   exact cW.trans<|⟨λXu=>az Xu λy Xv=>aU Xv λm e=>⟨⟨y,m,e⟩,B v.2.2.2.1<|aT e<|(hf y m).2⟩,λh=>h.1⟩) λw=>Iff.rfl
  have en:i.fl (λw=>(∃y∈t.cl c,U y=w)/\i.ae w≠0)=[]:=Wn λw Xw=>aU Xw λXx h=>az Xx λy Xy=>aU Xy λm e=>h (B v.2.2.2.1<|aT e<|(hf y m).2);have no:∀W,Wo W->gO W i->∀h,¬W h:=λW wo aB h hw=>by
   haveI:=ac.3 W wo aB h hw;rw[en]at this;exact this.elim λY q=>nomatch q.1
  have aM:Sub Z ((Z.set a (.list (Zl ((t.cl c).map U)))).set d (.list (gW us))):=Sub.set (Sub.set (λY Y h=>h) na) (Sub.dP (Sub.set (λY Y h=>h) na) E);have oF:∀{l:aH},l .X=some (me I)->l .bO=some (.int c)->Ev (aA (k+7)) l A (.aQ (.aC (.var .X) .cK) (.var .bO)) (oi (i.st c)):=λr h2=>sR M b2 (dd.2.1 z) (bY M ‹_› rfl rfl) (O ‹_›) oL;cases f:t.pf with
  |false=>
   haveI f2:=v.2.2.2.2.2.2.2.2.2.trans f;refine vI (iP M (O rfl) bb (aI (ju aX) (aI (oF rfl rfl) (aI (O rfl) aX))) (FQ M f2 _ (vD M (O rfl) bb IH rfl λA M=>?_)));refine kA M gU (O rfl) bb IJ rfl λA M=>d9 (q A i _ (M.fD aM) ⟨gr,λh=>(by rw[f]at h;exact nf h),by lia,λY=>congrFun v.2.2.2.2.2.2.2.2.1 _,λh=>(by rw[f]at h;exact nf h),λW wo aB=>no W wo (gr.3 W wo aB)⟩)
  |true=>
   have f2:=v.2.2.2.2.2.2.2.2.2.trans f;refine gn λkG=>cF (ac.2 f2) λs0 ps MK=>eY MK λr1 r2 r3 r4 G=>?_;clear MK;rw[en]at G;haveI VL:us=ps:=by
    haveI:=r4;simp only[List.nil_append]at this;exact List.map_inj_right (λa b h=>by cases a;cases b;simp at h;exact Prod.ext h.1 h.2)|>.mp this
   subst VL;obtain⟨bp,bl⟩:=(P2 f).bp b2;refine kG ?_;haveI e1:Ev (aA (k+7)) (((aH.set (λY=>none) .X (me I)).set .bO (.int c)).set .eH (.ref d)) A (.aQ (.aC (.var .X) .cK) (.var .bO)) (.int s0):=by
    haveI:=oF (l:=(((aH.set (λY=>none) .X (me I)).set .bO (.int c)).set .eH (.ref d))) rfl rfl;replace this:=r1▸this;exact this
   refine vI (iP M (O rfl) bb (aI (ju aX) (aI e1 (aI (O rfl) aX))) (Bq M bp r2 r3 G (.inl H.bC) (df (aV qt l5) (by decide)) bl λA t3 s M o=>vD M (O rfl) bb (IH (x:=some s)) rfl λA M=>?_))
   have g3:=o.gr (λW w aB=>G.uz w (aB.2 f2) (aB.2 f2 s0 r2)) f2;haveI GD:i.ps.length+1<=14000000+i.rt:=by haveI:=sl f;lia
   haveI yA:t3.rt=i.rt:=by refine Or.elim o.1 (λe=>?_) (λL=>d7 L λY Y Y e=>?_)<;>refine e▸?_<;>rfl
   refine kA M gU (O rfl) bb IJ rfl λA M=>d9 (q A t3 (some s) (M.fD aM) ⟨gr.trans g3,λY=>o.pf (P2 f) ⟨iV (bt rfl),λx h=>nomatch h⟩ GD g3.2,by refine yA▸?_;haveI:=o.len;lia,λh=>(by replace h:=f▸h;exact nt h),λY=>⟨s,rfl,o.2,o.3⟩,λW wo aB=>no W wo (gr.3 W wo aB)⟩)
def oA(t:T)(ws:Int->List Int)(N:Int):Prop:=Q3
 (∀p c,c∈ws p->c≠N/\Cn t c/\∃a b r,t.cl c=a::b::r/\(bJ a=p\/bJ b=p))
 (∀c a b r,c≠N->Cn t c->t.cl c=a::b::r->c∈ws (bJ a)/\c∈ws (bJ b))
 (∀p,(ws p).Nodup)
theorem oA.cC(a7:oA t ws N)(h:new.length<2):gJ (t.cu N new) ws:=by
 refine⟨λp c d=>?_,λc a b r d e=>?_,a7.3⟩
 .exact gn λi=>br (a7.1 p c d) λj k f=>d7 f λa b r g=>aU g λl m=>i<|(fF k (d_ a b r (fF ((nZ j).trans l) m)))
 .haveI n:c≠N:=λq=>by simp only[q,nY]at e;rw[e]at h;exact absurd h (by simp)
  exact a7.2 c a b r n d ((nZ n).symm.trans e)
theorem oA.Rk{t:T}{ws:Int->List Int}{N:Int}{new:List Int}(a7:oA t ws N)(n:Cn t N){a b:Int}{r:List Int}(e:new=a::b::r)(ha:a≠0)(o:b≠0)(s:a≠b):gJ (t.cu N new) (aW (aW ws (bJ a) (ws (bJ a)++[N])) (bJ b) (aW ws (bJ a) (ws (bJ a)++[N]) (bJ b)++[N])):=by
 haveI g:=λq=>s (rU q o ha).symm;refine(b7 g)▸?_;have u:=λp h=>(a7.1 p N h).1 rfl;have at_:∀p,aW (aW ws (bJ a) (ws (bJ a)++[N])) (bJ b) (ws (bJ b)++[N]) p=if p=bJ a\/p=bJ b then ws p++[N]else ws p:=λp=>by
  unfold aW;rcases cY (p=bJ b)with q|q
  .rw[bA q,bA (.inr q),q]
  .rw[bx q];refine dx (p=bJ a) (λd=>?_) (λd=>?_)
   .rw[bA d,bA (.inl d),d]
   .rw[bx d,bx λz=>z.elim d q]
 have mem:∀p c,c∈aW (aW ws (bJ a) (ws (bJ a)++[N])) (bJ b) (ws (bJ b)++[N]) p↔c∈ws p\/(c=N/\(p=bJ a\/p=bJ b)):=λp c=>by
  rw[at_];refine dx (p=bJ a\/p=bJ b) (λq=>?_) (λq=>?_)
  .rw[bA q,dT,cL];exact or_congr Iff.rfl ⟨λh=>⟨h,q⟩,λh=>h.1⟩
  .exact B (bx q) (⟨.inl,λh=>h.elim id λh=>absurd h.2 q⟩)
 refine⟨λp c i=>?_,λc j k r' i f=>?_,λp=>?_⟩
 .rcases(mem p c).mp i with h|⟨rfl,h⟩
  .exact gn λv=>br (a7.1 p c h) λw A l=>d7 l λj k r' m=>aU m λC E=>v<|(fF A (d_ j k r' (fF ((nZ w).trans C) E)))
  .exact fF n (d_ a b r (fF (nY.trans e) (h.imp Eq.symm Eq.symm)))
 .rcases cY (c=N)with q|q
  .haveI q:=q.symm;subst q;replace f:=nY▸f;replace f:=e▸f;cases f;exact⟨(mem _ _).mpr (.inr ⟨rfl,.inl rfl⟩),(mem _ _).mpr (.inr ⟨rfl,.inr rfl⟩)⟩
  .haveI:=a7.2 c j k r' q i ((nZ q).symm.trans f);exact⟨(mem _ _).mpr (.inl this.1),(mem _ _).mpr (.inl this.2)⟩
 .rw[at_];split
  .exact jB.mpr (aS (a7.3 p) (by simp) λx G y I q=>u p (cL.mp I▸q▸G))
  .exact a7.3 p
theorem gJ.ou(i:gJ t ws):oA ((t.ou xs s d).Bj x) ws t.m:=by
 have en:∀{c},Cn t c->c≠t.m/\((t.ou xs s d).Bj x).cl c=t.cl c:=λ{c} h=>⟨λq=>absurd h.2 (q▸Int.lt_irrefl _),b7 λq=>absurd h.2 (q▸Int.lt_irrefl _)⟩;refine⟨λp c g=>?_,λc a b r u g e=>?_,i.3⟩
 .exact gn λl=>aU (i.1 p c g) λf j=>d7 j λa b r k=>aU k λn o=>l<|(aS ((en f).1) ⟨f.1,by show c< ((t.m+1));have:=f.2;lia⟩ (d_ a b r (fF ((en f).2.trans n) o)))
 .haveI f:Cn t c:=⟨g.1,by haveI h:c< ((t.m+1)):=g.2;lia⟩
  exact i.2 c a b r f ((en f).2.symm.trans e)
noncomputable def T.gf(t:T)(c p:Int):T:=t.k0 (aW t.ws p ((t.ws p).filter λx=>decide (x≠c)))
theorem gJ.gf(f:gJ t t.ws)(e:t.cl c=a::b::r):oA ((t.gf c (bJ a)).gf c (bJ b)) ((t.gf c (bJ a)).gf c (bJ b)).ws c:=by
 have at_:∀p,((t.gf c (bJ a)).gf c (bJ b)).ws p=(t.ws p).filter (λx=>decide (x≠c))\/(((t.gf c (bJ a)).gf c (bJ b)).ws p=t.ws p/\p≠bJ a/\p≠bJ b):=λp=>by
  show aW (aW t.ws _ _) _ _ p=_\/_;rcases cY (p=bJ b)with q|q
  .refine .inl ?_;rw[q,cU];show((aW t.ws (bJ a) _) (bJ b)).filter _=_;rcases cY (bJ b=bJ a)with d|d
   .refine d▸B cU ?_;refine B List.filter_filter ?_;exact List.filter_congr λx Y=>Bool.and_self _
   .rw[b7 d]
  .rw[b7 q];refine dx (p=bJ a) (λd=>?_) (λd=>?_)
   .exact .inl (d▸cU)
   .exact .inr (aS ((b7 q).trans (b7 d)) d q)
 have i:∀p x,x∈((t.gf c (bJ a)).gf c (bJ b)).ws p↔x∈t.ws p/\x≠c:=λp x=>by
  refine Or.elim (at_ p) (λh=>?_) (λm=>br m λh j k=>?_)
  .rw[h,dU,k6]
  .refine B h<|⟨λq=>⟨q,λz=>?_⟩,λq=>q.1⟩;clear at_ m h;subst z;refine aU (f.1 p x q) λY n=>d7 n λo s r' u=>aU u λg y=>?_;clear n u;replace g:=e▸g;cases g;exact y.elim (λz=>j z.symm) λz=>k z.symm
 refine⟨λp x A=>?_,λx o s r' v C g=>?_,λp=>?_⟩
 .haveI w:=(i p x).mp A;haveI j:=w.1;haveI k:=w.2;exact⟨k,f.1 p x j⟩
 .haveI:=f.2 x o s r' C g;exact⟨(i _ _).mpr ⟨this.1,v⟩,(i _ _).mpr ⟨this.2,v⟩⟩
 .refine Or.elim (at_ p) (λh=>?_) (λl=>aU l λh Y=>?_)
  .exact B h ((f.3 p).filter _)
  .exact B h (f.3 p)
theorem ah'{C:Cx}{l:aH}{A Z:H}{I:bT->Nat}{t:T}{Q:Fl->aH->H->Prop}{r:List St}{o i:a7}{a:Nat}{x:Int}{xs:List Int}(M:Mem I t Z A)(b:Bd t)(g:Ev C l A o (.ref (I .ws)))(hi:Ev C l A i (.int (bJ x)))(m:a9 t x)(ha:Z a=some (.list (Zl xs)))(k:∀f,Mem (j7 I (bJ x) a) (t.k0 (aW t.ws (bJ x) xs)) (Z.jQ a) f->Ss C r l f Q):SI C o i r l Q (.ref a) A:=by
 haveI bn:2*t.n+2<=bf:=aV (Nat.add_le_add_right (Nat.mul_le_mul_left 2 b.1) 2) (bt rfl);haveI hp:=tE m;refine g _ (hi _ (fh _ _ _ _ (ee rfl rfl (M.1 .ws _ rfl) (B fJ bn) (B fJ (mA hp.1 hp.2)) (k _ ?_))));refine B (wq hp.1)<|aT O5<|M.mv (.w (bJ x)) .ws rfl (bT.ne rfl) ha (bA rfl) (λaD h=>BC h) ((bA hp).trans (aP (λy=>some (bN.list (Zl y))) cU)) rfl λaD d e=>?_;cases aD with
 |w j=>exact aP (λy=>if 0<=j/\j<2*t.n+2 then some (bN.list (Zl y))else none) (b7 λq=>d (aP _ q))
 |ob c=>clear d e;cases c<;>rfl
 |«at» c=>clear d e;cases c<;>rfl
 |ws=>exact absurd rfl e
 |_=>rfl
theorem Qt(M:Mem I t Z A)(b:Bd t)(n:Ev C l A o (.ref (I .cl)))(hi:Ev C l A i (.int c))(d:Cn t c)(ha:Z a=some (.list (Zl xs)))(k:∀g,Mem (lI I c a) (t.cu c xs) (Z.jQ a) g->Ss C r l g Q):SI C o i r l Q (.ref a) A:=by
 refine n _ (hi _ (fh _ _ _ _ (ee rfl rfl (M.1 .cl _ rfl) (B fJ (c9 b.bm)) (B fJ (mA d.1 d.2)) (k _ ?_))));refine B (wq d.1)<|aT O2<|M.mv (.c c) .cl rfl (bT.ne rfl) ha (bA rfl) (λaD h=>O3 h) ((bA d).trans (aP (λy=>some (bN.list (Zl y))) cU)) rfl λaD e f=>?_;cases aD with
 |c j=>exact aP (λy=>if 0<=j/\j<t.m then some (bN.list (Zl y))else none) (b7 λq=>e (aP _ q))
 |ob c=>clear e f;cases c<;>rfl
 |«at» c=>clear e f;cases c<;>rfl
 |cl=>exact absurd rfl f
 |_=>rfl
theorem DH(n:Z a=none):Sub Z ((Z.set a o).jQ a):=λy x h=>by
 haveI:=Sub.ne h n;exact B (zL this)<|B (H.a6 this)<|h
def Hq(I a:bT->Nat):Prop:=∀aD,(∀p,aD≠.w p)->a aD=I aD
theorem Bd.gf(b:Bd t):Bd (t.gf c p):=⟨b.1,b.2,b.3,b.4,b.5,λs=>by
 show(aW t.ws p _ s).length<=_;unfold aW;split
 .exact aV (lP ..) (b.6 _)
 .exact b.6 s⟩
theorem ajq(M:Mem I t Z A)(bd:Bd t)(K:dY t)(m:Cn t c)(e:t.cl c=a::b::r)(q:∀R i,Hq I i->Mem i ((t.gf c (bJ a)).gf c (bJ b)) Z R->Q .none R):aA (k+2) .HT [me I,.int c] A Q:=by
 haveI e2:(Zl (t.cl c)).take 2=Zl [a,b]:=by refine B e ?_;rfl
 refine⟨_,rfl,kR ((e2▸z6 (mc M bd (bY M rfl rfl rfl) (O rfl) m) a8 (M.1 _ _ (js m)) (B cj (bd.nX m.1 m.2)) ⟨by decide,by decide⟩) _ λp hp=>?_)⟩
 haveI np:=M.dP hp;haveI M:=M.dy (o:=.list (Zl [a,b])) (.inl hp);refine nF (λE l A=>∃i done,[a,b]=done++E/\Hq I i/\Mem i (done.foldl (λt x=>t.gf c (bJ x)) t) (Z.set p (.list (Zl [a,b]))) A/\Bd (done.foldl (λt x=>t.gf c (bJ x)) t)/\l .X=some (me I)/\l .bO=some (.int c)) H.bC (bt rfl) (cE I ([]) (ee rfl (λY Y=>rfl) M bd rfl rfl)) (λE l A X3=>cF X3 λi done X4=>eI X4 λY Y M Y=>M.3 _ _ H.bC) ?_ ?_
 .intro v E l A C P p1 Y Y;refine cF C λi done G=>iM G λs o M j L W=>?_;haveI vc:v∈t.cl c:=by
   refine B e ?_;haveI:v∈[a,b]:=B s (iW _ (bE ..));rcases dW.mp this with h|h
   .exact B h (bE ..)
   .exact B (cL.mp h) (cP _ (bE ..))
  haveI lv:=(K.2 c v m vc).1;haveI ln:∀(d:List Int) (t:T),(d.foldl (λt x=>t.gf c (bJ x)) t).n=t.n:=λd=>by
   induction d with
   |nil=>exactλY=>rfl
   |cons x d ih=>exactλt=>ih _
  have z:a9 (done.foldl (λt x=>t.gf c (bJ x)) t) v:=by unfold a9;rw[ln];exact lv
  have oQ:=L.trans (aP (λp=>some (V.ref p)) (o (.ob .aO) λY h=>bT.ne rfl h).symm);refine dG (nE (aI (O rfl) aX) λQ q=>tD Q q) ?_;generalize hT:done.foldl (λt x=>t.gf c (bJ x)) t=J at M j z;haveI n1:=qd (l:=(l.set .lit (.int v)).set .jk (.int (bJ v))) (it:=.aQ (.aC (.var .X) .lN) (.var .jk)) (cN:=.var .cC) (f:=id) (g:=qk λx=>decide (x≠c)) (uF M j (bY M ‹_› rfl rfl) (O rfl) z) (M.1 _ _ (ui z)) (B cj (c9 (j.zB _))) (λu hu=>by
   obtain⟨y,_,rfl⟩:=cW.mp hu;haveI:=dC (di (ne:=true) (O rfl:Ev (aA (k+1)) (((l.set .lit (.int v)).set .jk (.int (bJ v))).set .cC (.int y)) A (.var .cC) (.int y)) (O ‹_›:Ev (aA (k+1)) (((l.set .lit (.int v)).set .jk (.int (bJ v))).set .cC (.int y)) A (.var .bO) (.int c)) rfl) λY=>hO;haveI e0:((decide (y=c) !=true)&&true)=decide (y≠c):=by
    by_cases w:(y=c)
    .rw[cO w,dp (not_not_intro w)];rfl
    .rw[dp w,cO w];rfl
   rw[e0]at this;exact this) λu hu Y=>O rfl
  simp only[xd]at n1;refine B8 (n1 _ λd hd=>?_);haveI nd:=M.dP hd;haveI M:=M.dy (o:=.list (Zl ((J.ws (bJ v)).filter λx=>decide (x≠c)))) (.inl hd);refine ah' M j (bY M ‹_› rfl rfl) (O rfl) z H.bC λA M=>d9 (p1 _ _ ?_).1;refine(cE (j7 i (bJ v) d) (done++[v]) (ee (by simp only[s,iX];rfl) (λaD h=>(BC (h _)).trans (o aD h)) ?_ ?_ L W))
  .rw[List.foldl_append,hT];exact M.fD (DH nd)
  .rw[List.foldl_append,hT];exact j.gf
 .intro l A N;refine cF N λi done MO=>iM MO λs o M j L W=>?_;clear MO;rw[fQ]at s;subst s;exact d9 (q A i o (M.fD (Sub.set (λY Y h=>h) np)))
inductive Sb(W:(Int->Prop)->Prop)(t:T):Prop|mk
 (Y:Bd t)
 (Y:lj t)
 (Y:cB t)
 (Y:dY t)
 (Y:fY t)
 (Y:gJ t t.ws)
 (Y:Hp t)
 (Y:∀v:Int,1<=v->v<=t.n->t.aa v=0->0<=t.pl v)
 (Y:∀v,t.sn v=false)
 (Y:t.pf=true->ek t)
 (Y:gO W t)
 :Sb W t
inductive So(W:(Int->Prop)->Prop)(t:T)(h:Int):Prop|mk
 (Y:Sb W t)
 (Y:j0 t h λY Y=>False)
 (Y:kE t h)
 (Y:∀c,Cn t c->t.cl c≠[]/\∀x,t.cl c=[x]->t.val x=1/\t.ae (U x)=0)
 :So W t h
theorem Sb.dh(S:Sb W t)(hs:t.aK[lv]? =some s)(C:m8 t s f g a p):Sb W (t.dh f g u a p s lv):=
 ⟨S.1.dh,⟨S.2.1,S.2.2,S.2.3⟩,S.3.dh hs C,⟨S.4.1,S.4.2⟩,S.5.dh S.3 S.4 hs C,⟨S.6.1,S.6.2,S.6.3⟩,⟨S.7.1,C.3,S.7.3,S.7.4⟩,λv v1 v2 e=>C.4 v v1 v2 (S.8 v v1 v2) e,S.9,λf=>(S.10 f).dh S.3 hs C,⟨S.11.1,S.11.2⟩⟩
theorem So.dh(S:So W t h)(hs:t.aK[lv]? =some s)(C:m8 t s f g a p)(j:s<=t.hd):So W (t.dh f g u a p s lv) s/\(t.dh f g u a p s lv).hd=s/\(t.dh f g u a p s lv).tr.length=s.toNat:=by
 haveI b:=kE.dh (f:=f) (g:=g) (u:=u) (h:=a) (p:=p) S.1.3 hs j;haveI a1:=b.1;haveI a2:=b.2.1;haveI k:=b.2.2;refine aS (⟨S.1.dh hs C,S.2.dh S.1.3 S.1.4 hs C (S.3.3 lv s hs),a1,λc d=>⟨(S.4 c d).1,λx e=>?_⟩⟩) a2 k;refine aU ((S.4 c d).2 x e) λb1 b2=>?_;haveI e:t.cl c=[x]:=e;have i:=(S.1.4.2 c x d (B e (jo x))).1;haveI L:=S.1.3.4 x i b1;haveI:=(l7 S.1.3 hs L.2).mpr (by lia)
 exact⟨(pF C i (by lia)).trans b1,b2⟩
theorem So.ng(S:So W t h)(wo:Wo W)(R:Hh t J k x de pr):So W J h:=by
 refine gn λa=>eY R.1.d λb c g i j=>?_;haveI hh:=λv v1 v2 e=>(R.3 v).mpr (S.1.8 v v1 (R.1.f.1▸v2) (R.1.f.2.2.1▸e));haveI en:=R.7 W wo S.1.11;haveI hp:=R.2;haveI sn:=R.4;haveI P:=R.5;obtain⟨_,_,_,_,_,_,_,_,_,rfl⟩:=R.1;exact a<|⟨⟨b S.1.1,c S.1.2,g S.1.3,j S.1.4,i S.1.5,⟨S.1.6.1,S.1.6.2,S.1.6.3⟩,hp,hh,sn,P,en⟩,S.2,⟨S.3.1,S.3.2,S.3.3⟩,S.4⟩
theorem zZ:∀{a b:List Int},V.l_ (Zl a) (Zl b)=some (decide (a=b))
 |[],[]=>rfl
 |[],_::_=>rfl
 |_::_,[]=>rfl
 |x::a,y::b=>by
  show(match some (decide (x=y))with|some true=>V.l_ (Zl a) (Zl b)|r=>r)=_
  rcases cY (x=y)with e|e
  .rw[cO e];exact zZ.trans<|aT e<|aP some (decide_eq_decide.mpr ⟨λh=>aT h rfl,λh=>(List.cons.inj h).2⟩)
  .rw[dp e];rw[dp λh=>e (List.cons.inj h).1]
theorem Jy:V.eqv (.aE (Zl a)) (.aE (Zl b))=some (decide (a=b)):=by
 haveI f:∀c:List Int,(Zl c).all V.iB=true:=λc=>iI.mpr λv h=>by refine az (cW.mp h) λx d=>aU d λY e=>?_;clear d;subst e;rfl
 show(if(Zl a).all V.iB&&(Zl b).all V.iB then V.l_ (Zl a) (Zl b)else none)=_
 rw[f,f];exact zZ
theorem Sd.td(h:Sd xs ys)(z:∀x∈xs,x≠0)(d:∀x∈xs,-x∉xs):Td ys:=
 ⟨λx c=>z x ((h.1 x).mp c),h.2.imp_of_mem λ{a b} ha f g=>by
   refine Or.elim g (λg=>?_) (λi=>aU i λg1 g2=>?_)
   .exact g
   .rcases kJ g1 with e|e
    .rw[e]at g2;exact absurd g2 (Int.lt_irrefl _)
    .exact absurd ((h.1 a).mp ha) (B e (d b ((h.1 b).mp f)))⟩
def Sk(W:(Int->Prop)->Prop)(t:T):Prop:=yY
 (Bd t)
 (lj t)
 (cB t)
 (dY t)
 (fY t)
 (Hp t)
 (∀v:Int,1<=v->v<=t.n->t.aa v=0->0<=t.pl v)
 (∀v,t.sn v=false)
 (t.pf=true->ek t)
 (gO W t)
def Sx(W:(Int->Prop)->Prop)(t:T)(h N:Int):Prop:=Q5
 (Sk W t)
 (j0 t h λc Y=>c=N)
 (kE t h)
 (∀c,Cn t c->c≠N->t.cl c≠[]/\∀x,t.cl c=[x]->t.val x=1/\t.ae (U x)=0)
 (Cn t N)
theorem j0.Uw(V:j0 t hh λc Y=>c=N)(d:cB t)(K:dY t)(hs:t.aK[lv]? =some s)(C:m8 t s f g h p)(y:s<=hh):j0 (t.dh f g u h p s lv) s λc Y=>c=N:=λc a b r j e x w hu i k=>by
 haveI e:=e;have l:x∈t.cl c/\w∈t.cl c:=by refine B e ?_;rcases hu with⟨rfl,rfl⟩|⟨rfl,rfl⟩<;>simp
 have m:=(K.2 c x j l.1).1;have lw:=(K.2 c w j l.2).1;haveI k:t.S (U x)<s:=k;have i:=(pF C m k)▸i;rcases V c a b r j e x w hu i (by lia)with z|⟨n,o⟩
 .exact .inl z
 .haveI q:=d.neg m i;haveI v:=d.4 w lw n;haveI lt:=(l7 d hs q.2.1).mp (by lia)
  rw[dJ]at lt;haveI:=(l7 d hs v.2).mpr (by lia)
  exact .inr ⟨(pF C lw (by lia)).trans n,o⟩
theorem Sb.sc(S:Sb W t):Sk W t:=⟨S.1,S.2,S.3,S.4,S.5,S.7,S.8,S.9,S.10,S.11⟩
theorem Sx.dh(S:Sx W t h N)(hs:t.aK[lv]? =some s)(C:m8 t s f g a p)(j:s<=t.hd):Sx W (t.dh f g u a p s lv) s N/\(t.dh f g u a p s lv).hd=s/\(t.dh f g u a p s lv).tr.length=s.toNat:=by
 haveI b:=kE.dh (f:=f) (g:=g) (u:=u) (h:=a) (p:=p) S.1.3 hs j;haveI a1:=b.1;haveI a2:=b.2.1;haveI k:=b.2.2;refine aS (⟨⟨S.1.1.dh,⟨S.1.2.1,S.1.2.2,S.1.2.3⟩,S.1.3.dh hs C,⟨S.1.4.1,S.1.4.2⟩,S.1.5.dh S.1.3 S.1.4 hs C,⟨S.1.6.1,C.3,S.1.6.3,S.1.6.4⟩,λv v1 v2 e=>C.4 v v1 v2 (S.1.7 v v1 v2) e,S.1.8,λf=>(S.1.9 f).dh S.1.3 hs C,⟨S.1.10.1,S.1.10.2⟩⟩,S.2.Uw S.1.3 S.1.4 hs C (S.3.3 lv s hs),a1,λc d cn=>⟨(S.4 c d cn).1,λx e=>?_⟩,S.5⟩) a2 k;refine aU ((S.4 c d cn).2 x e) λb1 b2=>?_;haveI e:t.cl c=[x]:=e;have i:=(S.1.4.2 c x d (B e (jo x))).1;haveI L:=S.1.3.4 x i b1;haveI:=(l7 S.1.3 hs L.2).mpr (by lia)
 exact⟨(pF C i (by lia)).trans b1,b2⟩
theorem Sx.cu(S:Sx W t h N)(p:xs.Perm (t.cl N)):Sx W (t.cu N xs) h N:=by
 refine⟨⟨S.1.1.cu S.5 p,⟨S.1.2.1,S.1.2.2,S.1.2.3⟩,⟨S.1.3.1,S.1.3.2,S.1.3.3,S.1.3.4,S.1.3.5,S.1.3.6⟩,S.1.4.cu p,S.1.5.cu p,⟨S.1.6.1,S.1.6.2,S.1.6.3,S.1.6.4⟩,S.1.7,S.1.8,λf=>?_,⟨λc d w hw=>?_,S.1.10.2⟩⟩,λc a b r d e x w hu i hs=>?_,⟨S.3.1,S.3.2,S.3.3⟩,λc d cn=>?_,S.5⟩
 .haveI P:=S.1.9 f;exact⟨P.1,P.2,λc d=>by
   exact gn λj=>az (P.3 c d) λs g=>eI g λs1 s2 s3 s4=>j<|(cR s (cg s1 s2 s3 λx=>(s4 x).trans (mP p c).mem_iff.symm)),P.4,P.5,P.6,P.7,P.8⟩
 .exact az (S.1.10.1 c d w hw) λx k=>aU k λl m=>⟨x,(mP p c).mem_iff.mpr l,m⟩
 .rcases cY (c=N)with q|q
  .exact .inl q
  .rw[nZ q]at e;exact S.2 c a b r d e x w hu i hs
 .exact B (nZ cn) (S.4 c d cn)
theorem Sx.k0(S:Sx W t h N)(b:∀p,(ws p).length<=15000000):Sx W (t.k0 ws) h N:=
 ⟨⟨⟨S.1.1.1,S.1.1.2,S.1.1.3,S.1.1.4,S.1.1.5,b⟩,⟨S.1.2.1,S.1.2.2,S.1.2.3⟩,⟨S.1.3.1,S.1.3.2,S.1.3.3,S.1.3.4,S.1.3.5,S.1.3.6⟩,⟨S.1.4.1,S.1.4.2⟩,⟨S.1.5.1⟩,⟨S.1.6.1,S.1.6.2,S.1.6.3,S.1.6.4⟩,S.1.7,S.1.8,λf=>haveI P:=S.1.9 f;⟨P.1,P.2,P.3,P.4,P.5,P.6,P.7,P.8⟩,⟨S.1.10.1,S.1.10.2⟩⟩,S.2,⟨S.3.1,S.3.2,S.3.3⟩,S.4,S.5⟩
theorem ek.cG(P:ek t)(n:cB t)(d:a9 t l)(h0:t.val l=0):ek (t.cG l r):=by
 refine⟨P.1,P.2,P.3,λv s f e=>?_,P.5,?_,λi x hi e=>?_,P.8⟩
 .refine gn λg=>az (P.4 v s f e) λy a=>eY a λh b c j k=>g ?_;haveI ne:=lC h0 d (by refine B c ?_;decide)
  haveI m:(t.cG l r).ae v=t.ae v:=b7 (aT b ne);exact cR y (e_ h b ((nC ne).trans c) (m.trans j) k)
 .show t.rt<=(t.tr++[l]).length;refine B cx ?_;haveI:=P.6;lia
 .haveI e:(t.tr++[l])[i]? =some x:=e;haveI hi:i<t.rt:=hi;rw[lR (by haveI:=P.6;lia)]at e
  exact P.7 i x hi e
theorem kE.cG(H:kE t h):kE (t.cG l r) h:=⟨H.1,by show h<=(t.tr++[l]).length;refine B cx ?_;haveI:=H.2;lia,H.3⟩
theorem Sk.cG(S:Sk W t)(a:a9 t l)(h0:t.val l=0)(hr:v9 t l r):Sk W (t.cG l r):=
 ⟨S.1.cG S.3 a h0,⟨S.2.1,S.2.2,S.2.3⟩,S.3.cG a h0,⟨S.4.1,S.4.2⟩,S.5.cG S.3 S.4 a h0 hr,⟨S.6.1,S.6.2,S.6.3,S.6.4⟩,λv v1 v2 e=>S.7 v v1 v2 (by
   haveI e:aW t.aa (U l) (if 0<l then 1 else-1) v=0:=e
   rcases cY (v=U l)with q|q
   .simp only[q,cU]at e;split at e<;>exact absurd e (by decide)
   .rwa[b7 q]at e),S.8,λf=>(S.9 f).cG S.3 a h0,⟨S.10.1,S.10.2⟩⟩
theorem Sx.bZ(S:Sx W t h N)(i:gJ t t.ws)(e:t.cl N=a::j)(h0:t.val a=0)(m:∀y∈j,t.val y= -1)(o:j=[]->t.aK.length=0)(p:∀y r,j=y::r->t.ae (U y)=t.aK.length):So W (t.cG a N) h:=by
 have b:=(S.1.4.2 N a S.5 (B e (bE ..))).1;have hr:v9 t a N:=.inr ⟨S.5,B e (bE ..),λx s u=>m x ((dW.mp (aT e s)).resolve_left u)⟩;have sc:=S.1.cG b h0 hr;refine⟨⟨sc.1,sc.2,sc.3,sc.4,sc.5,⟨i.1,i.2,i.3⟩,sc.6,sc.7,sc.8,sc.9,sc.10⟩,λc v A r d f x w hu g hs=>?_,S.3.cG,λc d=>?_⟩
 .rcases(S.2.cG S.1.4 h0 b S.3.2) c v A r d f x w hu g hs with z|z
  .subst z;replace f:=e▸f;cases f;rcases hu with⟨rfl,rfl⟩|⟨rfl,rfl⟩
   .replace g:=((uy b.1).1)▸g;exact absurd g (by decide)
   .haveI ne:=lC h0 b (by rw[m x (bE ..)];decide)
    haveI k:(t.cG w c).ae (U x)=t.ae (U x):=b7 ne;haveI l:(t.cG w c).ae (U w)=t.aK.length:=cU;exact .inr ⟨(uy b.1).1,by refine B k ?_;refine B l ?_;exact(p x r rfl)▸g8 _⟩
  .exact .inr z
 .rcases cY (c=N)with q|q
  .clear hr sc d;subst q;refine⟨λz=>(by replace z:=e▸z;injection z),λx z=>?_⟩
   replace z:=e▸z;cases z;have l:(t.cG a c).ae (U a)=t.aK.length:=cU;exact⟨(uy b.1).1,by rw[l,o rfl];rfl⟩
  .haveI n:=S.4 c d q;haveI C:=n.1;have E:=n.2;refine⟨C,λx z=>?_⟩;refine aU (E x z) λv1 v2=>?_;haveI ne:=lC h0 b (by refine B v1 ?_;decide)
   haveI k:(t.cG a N).ae (U x)=t.ae (U x):=b7 ne;exact⟨(nC ne).trans v1,k.trans v2⟩
noncomputable def T.j8(t:T)(xs:List Int)(s:Option Int)(d:Bool)(x:Int):T:={t with cl:=aW t.cl t.m xs,m:=t.m+1,st:=aW t.st t.kW s,kW:=t.kW+1,dr:=aW t.dr t.nB d,nB:=t.nB+1,nW:=t.nW+1,ld:=x}
theorem So.sx(S:So W t h)(d:Cn t N):Sx W t h N:=⟨S.1.sc,λc a b r d e u w hu f hs=>(S.2 c a b r d e u w hu f hs).imp False.elim id,S.3,λc d Y=>S.4 c d,d⟩
theorem Sk.ou(S:Sk W t)(u:t.m+1<12000000)(nd:ys.Nodup)(o:∀y∈ys,a9 t y/\-y∉ys)(v:ys.length<=5)(hp:t.pf=true->∃s0,s=some s0/\Sn t s0/\Td (t.cs s0)/\∀x,x∈t.cs s0↔x∈ys)(en:iz W ys):Sk W (t.j8 ys s d x):=by
 have cn:∀{c},Cn (t.j8 ys s d x) c->c≠t.m->Cn t c:=λ{c} g n=>⟨g.1,by haveI h:c< ((t.m+1)):=g.2;lia⟩
 haveI p:∀{c},Cn t c->Cn (t.j8 ys s d x) c/\c≠t.m:=λ{c} g=>⟨⟨g.1,by show c< ((t.m+1));have:=g.2;lia⟩,λq=>absurd g.2 (aT q (Int.lt_irrefl _))⟩
 have j:∀{c:Int},c≠t.m->(t.j8 ys s d x).cl c=t.cl c:=λn=>b7 n;haveI em:(t.j8 ys s d x).cl t.m=ys:=cU;refine⟨⟨S.1.1,S.1.2,S.1.3,u,λi r w=>?_,S.1.6⟩,⟨aP (·+1) S.2.1,aP (·+1) S.2.2,aP (·+1) S.2.3⟩,⟨S.3.1,S.3.2,S.3.3,S.3.4,S.3.5,S.3.6⟩,⟨λc g=>?_,λc y g k=>?_⟩,⟨λi l e=>?_⟩,⟨S.6.1,S.6.2,S.6.3,S.6.4⟩,S.7,S.8,λf=>?_,⟨λc g=>?_,S.10.2⟩⟩
 .rcases cY (i=t.m)with q|q
  .rw[q,em];exact v
  .exact B (j q) (S.1.5 i r (cn ⟨r,w⟩ q).2)
 .rcases cY (c=t.m)with q|q
  .rw[q,em];exact nd
  .exact B (j q) (S.4.1 c (cn g q))
 .rcases cY (c=t.m)with q|q
  .simp only[q,em]at k⊢;exact o y k
  .rw[j q]at k⊢;exact S.4.2 c y (cn g q) k
 .refine(S.5.1 i l e).imp id λA=>br A λa b c=>aS ((p a).1) ?_ ?_
  .show l∈(t.j8 ys s d x).cl (t.R (U l));exact B (j (p a).2) b
  .show∀y∈(t.j8 ys s d x).cl (t.R (U l)),_;exact B (j (p a).2) c
 .haveI P:=S.9 f;refine⟨P.1,P.2,λc g=>?_,P.4,P.5,P.6,P.7,P.8⟩;refine dx (c=t.m) (λq=>?_) λq=>?_
  .obtain⟨s0,s1,s2,s3,s4⟩:=hp f;refine⟨s0,?_,s2,s3,λz=>by rw[q,em];exact s4 z⟩
   show aW t.st t.kW s c=_;rw[q,S.2.1,cU];exact s1
  .obtain⟨s0,s1,s2,s3,s4⟩:=P.3 c (cn g q);refine⟨s0,?_,s2,s3,λz=>B (j q) (s4 z)⟩;show aW t.st t.kW s c=_;rw[S.2.1,b7 q];exact s1
 .rcases cY (c=t.m)with q|q
  .rw[q,em];exact en
  .exact B (j q) (S.10.1 c (cn g q))
theorem So.ou(S:So W t h)(i:Sk W (t.j8 ys s d x)):Sx W (t.j8 ys s d x) h t.m:=by
 have cn:∀{c},Cn (t.j8 ys s d x) c->c≠t.m->Cn t c:=λ{c} f n=>⟨f.1,by haveI h:c< ((t.m+1:Nat)):=f.2;lia⟩
 have g:∀{c:Int},c≠t.m->(t.j8 ys s d x).cl c=t.cl c:=λn=>b7 n;refine⟨i,λc a b r f e u w hu j hs=>?_,⟨S.3.1,S.3.2,S.3.3⟩,λc f n=>?_,⟨fE _,by show(t.m:Int)< ((t.m+1));lia⟩⟩
 .rcases cY (c=t.m)with q|q
  .exact .inl q
  .rw[g q]at e;exact(S.2 c a b r (cn f q) e u w hu j hs).imp False.elim id
 .exact B ((g n))<|S.4 c (cn f n)
theorem Sx.gf(S:Sx W t h N):Sx W ((t.gf N p).gf N q) h N:=
 (S.k0 S.1.1.gf.6).k0 (S.1.1.gf.gf).6
theorem NC{t:T}(h:t.val x= -1):t.rC x=t.ae (U x):=bA h
def CT(p:Nat)(R:V->H->Prop)(w:V)(A:H):Prop:=∃p' q E ws,V.ref p=.ref p'/\w=.ref q/\A p'=some (.list E)/\A q=some (.list ws)/\E.length+ws.length<=bf/\jg A (E++ws) R
theorem Vo(M:Mem I t Z A)(d:fX C l A a E)(k:∀p c,Z p=none->Mem I t (Z.set p (.list E)) c->aB C b l c λw A=>CT p R w A):aB C (.lA a b) l A R:=d _ λp hp=>k p _ (M.dP hp) (M.dy (.inl hp))
theorem U8(M:Mem I t Z A)(hp:Z p=some (.list E))(hq:Z q=some (.list ws))(c:E.length+ws.length<=bf)(k:∀a b,Z a=none->Mem I t (Z.set a (.list (E++ws))) b->R (.ref a) b):CT p R (.ref q) A:=
 (fh p q E ws (ee rfl rfl (M.3 _ _ hp) (M.3 _ _ hq) c λa ha=>k a _ (M.dP ha) (M.dy (.inl ha))))
theorem oA.len(a:oA t ws N)(p:Int):(ws p).length<=t.m:=by
 haveI:=pW (List.pairwise_map.mpr ((a.3 p).imp λh e=>h (Int.add_right_inj 1|>.mp (by simp only[Int.add_comm 1,Int.add_comm 1];exact e)))) λx c=>by
  refine az (cW.mp c) λy b=>aU b λd f=>?_;clear b;subst f;have:=(a.1 p y d).2.1;exact⟨Int.add_le_add_right this.1 1,Int.add_one_le_of_lt this.2⟩
 rwa[b9]at this
noncomputable def EK:List St:=Dg.drop 7
def hJ(I a:bT->Nat):Prop:=∀c,a (.ob c)=I (.ob c)
def Mc(t J:T):Prop:=∀c,Cn t c->Cn J c/\∀x,x∈J.cl c↔x∈t.cl c
theorem Mc.trans(a:Mc t t1)(b:Mc t1 e):Mc t e:=λc d=>⟨(b c (a c d).1).1,λx=>((b c (a c d).1).2 x).trans ((a c d).2 x)⟩
def Hn(W:(Int->Prop)->Prop)(t J:T):Prop:=y7
 (So W J J.hd)
 (J.n=t.n)
 (J.m=t.m)
 (J.ok=t.ok)
 (J.pf=t.pf)
 (J.st=t.st)
 (J.es=t.es)
 (J.fa=t.fa)
 (J.fd=t.fd)
 (J.ps=t.ps)
 (J.rt=t.rt)
 (∃(lv:Nat) (s x:Int),t.aK[lv]? =some s/\J.aK=t.aK.take lv/\J.tr=t.tr.take s.toNat++[x])
 (∀x,a9 t x->t.val x≠0->t.ae (U x)<=J.aK.length->J.val x=t.val x/\J.ae (U x)=t.ae (U x))
 (∀(i:Nat) x,J.tr[i]? =some x->J.R (U x)= -1->t.tr[i]? =some x/\t.R (U x)= -1/\J.ae (U x)=t.ae (U x))
 (Mc t J)
theorem ae'{Q:V->H->Prop}{h N x:Int}{de:List Int}(M:Mem I t Z A)(S:Sx W t h N)(wx:oA t t.ws N)(hp:Z p=some (.list (Zl (-x::de))))(pm:(-x::de).Perm (t.cl N))(D0:t.aK.length≠0)(vx:t.val x=1)(Lx:t.ae (U x)=t.aK.length)(hk:∀y∈de,t.val y= -1/\t.ae (U y)≠t.aK.length)(sh:∀(j:Nat) (d:Int),t.aK[j]? =some d->d<=t.hd)
 (l1:l .X=some (me I)) (l2:l .bR=some (.ref p)) (l3:l .bO=some (.int N))
 (q:∀af bD J bj,hJ I bD->Mem bD J bj af->Sub Z bj->Hn W t J->Q .none af):Ss (aA (k+8)) EK l A λfl Y A=>Q fl.val A:=by
 have b:=S.1.1;have lit:=λy G=>S.1.4.2 N y S.5 (pm.mem_iff.mp G);have lk:(-x::de).length<=5:=B pm.length_eq (b.5 N S.5.1 S.5.2);haveI OJ:=Nat.le_of_succ_le_succ lk;have lx:a9 t x:=by haveI:=(lit _ (bE ..)).1.n;rwa[h_]at this
 haveI lb:∀{n:Nat},n<=100->n<=bf:=λh=>aV h (bt rfl);haveI nt:fX (aA (k+8)) l A (.nS (.var .bR) (.int 1)) (Zl [-x]):=by
  haveI:=z6 (C:=aA (k+8)) (j:=1) (O l2) a8 (M.3 _ _ hp) (B cj (lb (aV lk (by decide)))) ⟨by decide,by decide⟩
  simp only[A5]at this;exact this
 refine gF (Vo M nt λp1 A n1 M=>?_);haveI ad':=(H.a6 (o:=.list (Zl [-x])) (Sub.ne hp n1)).trans hp;haveI nf:fX (aA (k+8)) l A (.from (.var .bR) (.int 1)) (Zl de):=by
  haveI:=JN (C:=aA (k+8)) (j:=1) (O l2) a8 (M.3 _ _ ad') (B cj (lb (aV lk (by decide)))) ⟨by decide,by decide⟩
  simp only[N3]at this;exact this
 refine Jj M (O l1) bb nf λp2 A n2 M=>Iw M b (.inl H.bC) (df OJ (by decide)) (λy G=>(lit y (cP _ G)).1) λA p3 E n3 M pk hw=>?_
 haveI e1:=Sub.ne ((H.a6 (Sub.ne H.bC n2)).trans H.bC) n3;haveI e2:=Sub.ne H.bC n2;have afh:E.length<=4:=B pk.length_eq OJ;refine U8 M ((H.a6 e1).trans ((H.a6 e2).trans H.bC)) H.bC (by refine cj▸?_;exact B cj (lb (aV (Nat.add_le_add (dR 1) afh) (by decide)))) λp4 A n4 M=>?_
 haveI s4:Sub Z (((Z.set p1 (.list (Zl [-x]))).set p2 (.list (Zl de))).set p3 (.list (Zl E))):=by
  haveI a1:Sub Z (Z.set p1 (.list (Zl [-x]))):=Sub.set (λY Y h=>h) n1;haveI a2:=a1.set (o:=.list (Zl ((-x::de).drop 1))) (a1.dP n2);exact a2.set (a2.dP n3)
 generalize ake:((Z.set p1 (.list (Zl [-x]))).set p2 (.list (Zl de))).set p3 (.list (Zl E))=jL at M n4 s4;have ex:Zl [-x]++Zl E=Zl (-x::E):=rfl;replace M:=ex▸M;have Gx:=(pk.cons _).trans pm;have mj:=λy G=>aS ((hk y (pk.mem_iff.mp G)).1) ((hk y (pk.mem_iff.mp G)).2) ((lit y (cP _ (pk.mem_iff.mp G))).1);refine B8 (O rfl _ (Qt M b (bY M ‹_› rfl rfl) (O ‹_›) S.5 H.bC λA M=>?_));have M:=M.fD (DH n4);have s_:lI I N p4 (.c N)=p4:=bA rfl;have S4:=S.cu Gx;have b4:=S4.1.1;have c4:(t.cu N (-x::E)).cl N= -x::E:=nY;haveI oQ:∀l:aH,l .X=some (me I)->l .X=some (me (lI I N p4)):=λY h=>h;have len:∀{J A bj} {l:aH},Mem (lI I N p4) J bj A->Bd J->Cn J N->J.cl N= -x::E->l .bR=some (.ref p4)->Ev (aA (k+8)) l A (.b1 .len (.var .bR)) (.int (E.length+1)):=λM b hc e h=>uE M b hc (O (h.trans (aP (λp=>some (V.ref p)) s_.symm))) (by refine B e ?_;rfl)
 have aQ:∀{J A bj bD} {l:aH} {i:Nat} {y:Int},Mem bD J bj A->Bd J->Cn J N->J.cl N= -x::E->bD (.c N)=p4->l .bR=some (.ref p4)->(-x::E)[i]? =some y->Ev (aA (k+8)) l A (.aQ (.var .bR) (.int i)) (.int y):=λM b hc e hr h G=>nD M b (O (h.trans (aP (λp=>some (V.ref p)) hr.symm))) a8 hc (e.symm▸G);refine gn λkG=>?_;obtain⟨lv,ES,ON,oT,OM⟩:∃lv:Nat,(∀y∈E,t.ae (U y)<=lv)/\lv<t.aK.length/\(E=[]->lv=0)/\∀y r,E=y::r->t.ae (U y)=lv:=by
  cases E with
  |nil=>exact⟨0,λy h=>absurd h gh,Nat.pos_of_ne_zero D0,λY=>rfl,λy r h=>absurd h.symm (List.cons_ne_nil _ _)⟩
  |cons y r=>
   haveI G:=mj y (bE ..);haveI af5:=S.1.3.neg G.2.2 G.1;haveI ly:=S.1.3.6 _ _ af5.2.1;replace ly:=dJ▸ly;refine⟨(t.ae (U y)).toNat,λz hz=>?_,by lia,λh=>(nomatch h),λz r' h=>by injection h with h;subst h;lia⟩
   rcases dW.mp hz with e|e
   .rw[e];lia
   .haveI aem:=mj z (cP _ e);haveI:=(List.pairwise_cons.mp hw).1 z e;simp only[NC aem.1,NC G.1]at this;lia
 refine kG ?_;haveI L:=S.1.3.4 x lx vx;have tail:∀m A,Mem (lI I N p4) m jL A->Sx W m h N->gJ m m.ws->m.cl N= -x::E->Pg t m->m.tr=t.tr/\m.ae=t.ae/\m.aa=t.aa/\m.S=t.S/\m.hd=t.hd/\m.R=t.R/\(∀c,(m.cl c).Perm (t.cl c))->
  Ss (aA (k+8)) [.expr (.aZ (.var .X) .aO .oz [.ite (.eq false (.b1 .len (.var .bR)) (.int 1)) (.int 0) (.aQ (.aC (.var .X) .iR) (.b1 .abs (.aQ (.var .bR) (.int 1))))]),
   .expr (.aZ (.var .X) .aO .pE [.aQ (.var .bR) (.int 0),.var .bO]),
   .expr (.aZ (.var .X) .aO .v_ [.var .bO]),
   .expr (.aZ (.aC (.var .X) .heap) .heap .Cy [])] (l.set .bR (.ref p4)) A λfl Y A=>Q fl.val A:=by
  intro m A M5 S5 wa c5 pg ⟨g1,g2,g3,g4,g5,gR,gC⟩;have g6:=pg.n;have g7:=pg.aK;haveI b5:=S5.1.1;haveI ai4:=b5.1;haveI v5:∀y,m.val y=t.val y:=λy=>by unfold T.val;exact B g3 rfl
  have l5:∀y,a9 m y↔a9 t y:=λy=>by unfold a9;rw[g6]
  haveI arg:Ev (aA (k+8)) (l.set .bR (.ref p4)) A (.ite (.eq false (.b1 .len (.var .bR)) (.int 1)) (.int 0) (.aQ (.aC (.var .X) .iR) (.b1 .abs (.aQ (.var .bR) (.int 1))))) (.int lv):=by
   refine qc (di (len M5 b5 S5.5 c5 rfl) a8 rfl) (λz=>?_) λz=>?_
   .have:E=[]:=List.length_eq_zero_iff.mp (by lia)
    exact B (oT this) a8
   .cases E with
    |nil=>replace z:=(cO (rfl:(([]).length:Int)+1=1))▸z;injection z
    |cons y r=>
     have iy:In m (U y):=by unfold In;exact B g6<|(mj y (bE ..)).2.2.fu
     exact eF M5 (fG M5 (O (oQ l l1)) rfl bb rfl) (fO (aQ M5 b5 S5.5 c5 s_ rfl rfl) rfl) rfl ai4 (aP V.int ((congrFun g2 _).trans (OM y r rfl))) iy
  refine eX M5 (O (oQ l l1)) bb (aI arg aX) (qZ M5 b5 S5.1.3 S5.1.6 (λq=>absurd q (by refine g7▸?_;exact Nat.not_le_of_lt ON)) λs A ajP f g u hl pl hs nJ M C=>?_)
  refine br (S5.dh (u:=u) hs C (B g5 (sh lv s (g7▸hs)))) λS6 adB akB=>?_;have c6:=(nJ (.c N) (bT.ne rfl) (bT.ne rfl)).trans s_;have Pj:hJ I ajP:=λc=>nJ (.ob c) (bT.ne rfl) (bT.ne rfl);have Fw:=l1.trans (aP (λp=>some (V.ref p)) (Pj .aO).symm);haveI b6:=S6.1.1;have GF:(m.dh f g u hl pl s lv).aK.length=lv:=by
   show(m.aK.take lv).length=lv;exact B k9<|B g7<|Nat.min_eq_left (c9 ON)
  have sx:s<=m.S (U x):=Int.not_lt.mp λq=>by
   haveI h1:m.tr[(t.S (U x)).toNat]? =some x:=B g1 L.2;haveI:=(l7 S5.1.3 hs h1).mp (by refine aT g4 ?_;haveI:=L.1;rw[<-g4]at this;lia)
   rw[g2]at this;lia
  have Ot:=(l5 _).mpr lx.n;haveI Fz:=Ot;have G':(m.dh f g u hl pl s lv).val (-x)=0:=by rw[zC C Ot,dJ,bA sx]
  have Pz:∀y,a9 t y->t.val y≠0->t.ae (U y)<=lv->(m.dh f g u hl pl s lv).val y=t.val y:=λy ly vy hL=>by
   have OQ:=(l5 y).mpr ly;refine gn λkG=>az (S5.1.3.v OQ.fu (g3▸ni S.1.3.tv ly vy)) λz MP=>br MP λz1 z2 z3=>kG ?_;clear MP;have:=(l7 S5.1.3 hs z1).mpr (by rw[z2,g2];exact hL)
   exact(pF C OQ (by lia)).trans (v5 y)
  have a:=S6.bZ ⟨wa.1,wa.2,wa.3⟩ c5 G' (λy G=>by
   haveI h:=mj y G;exact B (Pz y h.2.2 (by rw[h.1];decide) (ES y G)) h.1) (λe=>B GF (oT e)) (λy r e=>B GF ((congrFun g2 _).trans (OM y r e)))
  refine eX M (O Fw) bb (aI (aQ M b6 S6.5 c5 c6 rfl rfl) (aI (O l3) aX)) (wY M b6 Fz λA M=>?_);refine eX M (O Fw) bb (aI (O l3) aX) (F9 ?_);refine eX M (fG M (O Fw) rfl bb rfl) fB aX (Ve M a.1.7 λajQ A f' s' h' p' af6 M R=>d9 ?_);haveI S8:So W (((m.dh f g u hl pl s lv).cG (-x) N).hr f' s' h' p') s:=⟨⟨⟨a.1.1.1,a.1.1.2,a.1.1.3,a.1.1.4,a.1.1.5,a.1.1.6⟩,⟨a.1.2.1,a.1.2.2,a.1.2.3⟩,⟨a.1.3.1,a.1.3.2,a.1.3.3,a.1.3.4,a.1.3.5,a.1.3.6⟩,⟨a.1.4.1,a.1.4.2⟩,⟨a.1.5.1⟩,⟨a.1.6.1,a.1.6.2,a.1.6.3⟩,⟨a.1.1.1,R.1.1,R.2,R.3⟩,λv v1 v2 e=>(R.1.2 v).mpr (a.1.8 v v1 v2 e),a.1.9,λf=>haveI P:=a.1.10 f;⟨P.1,P.2,P.3,P.4,P.5,P.6,P.7,P.8⟩,⟨a.1.11.1,a.1.11.2⟩⟩,a.2,⟨a.3.1,a.3.2,a.3.3⟩,a.4⟩;haveI adC:=adB;obtain⟨akq,NL⟩:=pg;refine q A ajQ _ jL (λc=>(af6 (.ob c) (bT.ne rfl)).trans (Pj c)) M s4 ⟨aT adC.symm S8,g6,?_,?_,?_,?_,?_,?_,?_,?_,?_,d_ lv s (-x) (aS (aT g7 hs) ?_ ?_),λy ly vy hL=>?_,λi y G hr=>?_,λc hc=>⟨by refine NL▸?_;exact hc,λx=>(gC c).mem_iff⟩⟩
  all_goals first|(refine B NL ?_;rfl)|skip
  .exact aT g1 rfl
  .have WQ:t.ae (U y)<=lv:=by
    haveI:(((m.dh f g u hl pl s lv).cG (-x) N).hr f' s' h' p').aK.length=lv:=GF;rwa[this]at hL
   have o:=Pz y ly vy WQ;have ne:=lC G' Fz (B o vy);exact⟨(nC (r:=N) ne).trans o,(b7 ne).trans (congrFun g2 _)⟩
  .haveI xW:((m.dh f g u hl pl s lv).tr++[-x])[i]? =some y:=G;haveI ta:aW g (U (-x)) N (U y)= -1:=hr;rw[List.getElem?_append]at xW
   split at xW
   .haveI h6:=S6.1.3.3 i y xW;haveI ne:=lC G' Fz (by refine B h6.2.1 ?_;decide)
    rw[b7 ne]at ta;haveI uY:=xW;replace uY:=List.getElem?_take▸uY
    split at uY
    .haveI h5:=S5.1.3.3 i y uY;haveI:=C.2 _ h5.1.fu (by refine B h5.2.2 ?_;lia)
     exact(aS (aT g1 uY) (by refine aT gR ?_;refine aT this ?_;exact ta) (((b7 ne).trans (congrFun g2 _))))
    .exact nn uY
   .haveI:y= -x:=by
     haveI z:=jq xW;exact cL.mp z
    replace ta:=this▸ta;replace ta:=cU▸ta;exact absurd ta (by have:=S5.5.1;lia)
 refine bL (eP (len M b4 S4.5 c4 rfl) a8 rfl) (λz=>?_) λz=>c7 ?_
 .cases oN:E with
  |nil=>rw[oN]at z;exact absurd z (by decide)
  |cons y r=>
   haveI G:=mj y (B oN<|bE ..);haveI ne: -x≠y:=λe=>by
    haveI nd:=S4.1.4.1 N S4.5;rw[c4,oN,e]at nd;exact(jb.mp nd).1 (bE ..)
   haveI e4:(t.cu N (-x::E)).cl N= -x::y::r:=by rw[c4,oN]
   haveI wl:∀p,(t.ws p).length<15000000:=λp=>df (wx.len p) (Nat.lt_trans b.4 (by decide))
   refine eX M (O (oQ l l1)) bb (aI (O l3) aX) (Rl M b4 S4.5 (by refine B e4 ?_;rfl) (by refine B e4 ?_;rfl) lx.n G.2.2 wl λA M=>c7 ?_)
   haveI wa:=wx.Rk (new:=-x::E) S.5 (B oN rfl) lx.n.1 G.2.2.1 ne;have bw:∀p,((((t.cu N (-x::E)).r8 (bJ (-x)) N).r8 (bJ y) N).ws p).length<=15000000:=λp=>aV (gJ.len wa p) (c9 (Nat.lt_trans b.4 (by decide)))
   exact tail _ A M (S4.k0 bw) ⟨wa.1,wa.2,wa.3⟩ c4 ((Pg.cu.trans .w).trans .w) (oy rfl rfl rfl rfl rfl rfl (mP Gx))
 .haveI z:=gZ z;have e:E=[]:=List.length_eq_zero_iff.mp (by lia)
  exact tail _ A M S4 (wx.cC (by refine B e ?_;exact dR _)) c4 .cu (oy rfl rfl rfl rfl rfl rfl (mP Gx))
theorem So.uq(S:So W t h)(u:Uq t J)(P:t.pf=true->ek J)(aB:gO W J):So W J h:=by
 refine gz u λus rt ps pe a=>?_;try clear u
 subst a;exact⟨⟨⟨S.1.1.1,S.1.1.2,S.1.1.3,S.1.1.4,S.1.1.5,S.1.1.6⟩,⟨S.1.2.1,S.1.2.2,S.1.2.3⟩,⟨S.1.3.1,S.1.3.2,S.1.3.3,S.1.3.4,S.1.3.5,S.1.3.6⟩,⟨S.1.4.1,S.1.4.2⟩,⟨S.1.5.1⟩,⟨S.1.6.1,S.1.6.2,S.1.6.3⟩,⟨S.1.7.1,S.1.7.2,S.1.7.3,S.1.7.4⟩,S.1.8,S.1.9,P,aB⟩,S.2,⟨S.3.1,S.3.2,S.3.3⟩,S.4⟩
theorem Sb.uq(S:Sb W t)(u:Uq t J)(P:t.pf=true->ek J)(aB:gO W J):Sb W J:=by
 refine gz u λus rt ps pe a=>?_;try clear u
 subst a;exact⟨⟨S.1.1,S.1.2,S.1.3,S.1.4,S.1.5,S.1.6⟩,⟨S.2.1,S.2.2,S.2.3⟩,⟨S.3.1,S.3.2,S.3.3,S.3.4,S.3.5,S.3.6⟩,⟨S.4.1,S.4.2⟩,⟨S.5.1⟩,⟨S.6.1,S.6.2,S.6.3⟩,⟨S.7.1,S.7.2,S.7.3,S.7.4⟩,S.8,S.9,P,aB⟩
noncomputable def T.iZ(t:T)(cf dc:Int)(es fa:Option Int)(fd:List Int)(ok:Bool):T:={t with cf:=cf,dc:=dc,es:=es,fa:=fa,fd:=fd,ok:=ok}
theorem ek.iZ(P:ek t):ek (t.iZ cf dc es fa fd ok):=⟨P.1,P.2,P.3,P.4,P.5,P.6,P.7,P.8⟩
theorem Sb.iZ(S:Sb W t):Sb W (t.iZ cf dc es fa fd ok):=
 ⟨⟨S.1.1,S.1.2,S.1.3,S.1.4,S.1.5,S.1.6⟩,⟨S.2.1,S.2.2,S.2.3⟩,⟨S.3.1,S.3.2,S.3.3,S.3.4,S.3.5,S.3.6⟩,⟨S.4.1,S.4.2⟩,⟨S.5.1⟩,⟨S.6.1,S.6.2,S.6.3⟩,⟨S.7.1,S.7.2,S.7.3,S.7.4⟩,S.8,S.9,λf=>(S.10 f).iZ,⟨S.11.1,S.11.2⟩⟩
theorem So.iZ(S:So W t h):So W (t.iZ cf dc es fa fd ok) h:=⟨S.1.iZ,S.2,⟨S.3.1,S.3.2,S.3.3⟩,S.4⟩
def TA(C:Cx)(xs:List Nm)(r:List St)(l:aH)(Q:Fl->aH->H->Prop)(v:V)(A:H):Prop:=∃E a,v=.aE E/\ik xs E l=some a/\Ss C r a A Q
theorem QD(h:aB C e l A λv A=>TA C xs r l Q v A):Ss C (.jE xs e::r) l A Q:=h
theorem GV(k:Ss C r ((l.set x v).set y w) A Q):TA C [x,y] r l Q (.aE [v,w]) A:=cE _ _ (aS rfl rfl k)
def EQ(ne:Bool)(v:V)(R:V->H->Prop)(w:V)(A:H):Prop:=∃r,V.eqv v w=some r/\R (.bool (r !=ne)) A
theorem Vs(c:Ev C l A a v)(d:aB C b l A λw A=>EQ ne v R w A):aB C (.eq ne a b) l A R:=c _ d
def IT(C:Cx)(t e r:List St)(l:aH)(Q:Fl->aH->H->Prop)(v:V)(A:H):Prop:=∃b,v=.bool b/\(b=true->Ss C t l A (Nx C r Q))/\(b=false->Ss C e l A (Nx C r Q))
theorem tN(h:aB C c l A λv A=>IT C t e r l Q v A):Ss C (.ite c t e::r) l A Q:=h
theorem th(a:b=true->Ss C t l A (Nx C r Q))(c:b=false->Ss C e l A (Nx C r Q)):IT C t e r l Q (.bool b) A:=cR b (aS rfl a c)
def tW(W:(Int->Prop)->Prop)(t J:T):Prop:=CM
 (So W J J.hd)
 (J.n=t.n)
 (J.m<=t.m+1)
 (J.ok=t.ok)
 (J.pf=t.pf)
 (J.es=t.es)
 (J.fa=t.fa)
 (J.fd=t.fd)
 (J.ps.length+t.rt<=t.ps.length+J.rt+1)
 (J.pf=false->∀c,J.st c=none)
 (∃(lv:Nat) (s x:Int),t.aK[lv]? =some s/\J.aK=t.aK.take lv/\J.tr=t.tr.take s.toNat++[x])
 (∀x,a9 t x->t.val x≠0->t.ae (U x)<=J.aK.length->J.val x=t.val x/\J.ae (U x)=t.ae (U x))
 (∀(i:Nat) x,J.tr[i]? =some x->J.R (U x)= -1->t.tr[i]? =some x/\t.R (U x)= -1/\J.ae (U x)=t.ae (U x))
 (Mc t J)
def RB(W:(Int->Prop)->Prop)(t J:T):Prop:=y0
 (Sb W J)
 (J.n=t.n)
 (J.m=t.m)
 (J.pf=t.pf)
 (J.ok=false)
 (J.fd=t.fd)
 (J.ps.length+t.rt<=t.ps.length+J.rt+1)
 (J.pf=false->∀c,J.st c=none)
 (t.pf=false->J.es=none)
 (t.pf=true->∃s,J.es=some s/\Sn J s/\J.cs s=[])
 (J.aK=[])
 (∀h,¬W h)
def Ho(t t1:T):Prop:=y7
 (t1.n=t.n)
 (t1.m=t.m)
 (t1.ok=t.ok)
 (t1.pf=t.pf)
 (t1.es=t.es)
 (t1.fa=t.fa)
 (t1.fd=t.fd)
 (t1.ps=t.ps)
 (t1.rt=t.rt)
 (t1.st=t.st)
 (t1.cl=t.cl)
 (t1.aK=t.aK.take t1.aK.length)
 (∃s,t1.tr=t.tr.take s/\∀(j:Nat) d,t1.aK[j]? =some d->d.toNat<=s)
 (∀x,a9 t x->t.val x≠0->t.ae (U x)<=t1.aK.length->t1.val x=t.val x/\t1.ae (U x)=t.ae (U x))
 (∀(i:Nat) x,t1.tr[i]? =some x->t1.R (U x)= -1->t.tr[i]? =some x/\t.R (U x)= -1/\t1.ae (U x)=t.ae (U x))
def Ma(t J:T):Prop:=Hs
 (J.n=t.n)
 (J.m<=t.m+1)
 (J.ok=t.ok)
 (J.pf=t.pf)
 (J.es=t.es)
 (J.fa=t.fa)
 (J.fd=t.fd)
 (J.ps.length+t.rt<=t.ps.length+J.rt+1)
 (J.pf=false->(∀c,t.st c=none)->∀c,J.st c=none)
 (J.aK=t.aK)
 (J.tr=t.tr)
 (J.aa=t.aa)
 (J.ae=t.ae)
 (J.hd=t.hd)
 (J.R=t.R)
 (Mc t J)
theorem Ma.val(m:Ma t J)(x:Int):J.val x=t.val x:=by unfold T.val;exact aT m.12 rfl
theorem Ma.lit(m:Ma t J)(x:Int):a9 J x↔a9 t x:=by unfold a9;rw[m.1]
theorem tW.mk'(d:Ho t t1)(m:Ma t1 t3)(ae:Hn W t3 J)(w:t.pf=false->∀c,t.st c=none):tW W t J:=by
 refine d7 ae.12 λlv s x b=>br b λa e l=>?_;rw[m.10]at a e;rw[m.11]at l;have n:=(fR.mp a).1;have lt:J.aK.length=lv:=by rw[e,k9];lia
 refine⟨ae.1,ae.2.trans (m.1.trans d.1),by refine ae.3▸?_;refine aT d.2 ?_;exact m.2,ae.4.trans (m.3.trans d.3),ae.5.trans (m.4.trans d.4),ae.7.trans (m.5.trans d.5),ae.8.trans (m.6.trans d.6),ae.9.trans (m.7.trans d.7),?_,λf c=>?_,d_ lv s x (aS ?_ ?_ ?_),λy g o hL=>?_,λi y z hr=>?_,λc p=>(m.16.trans ae.15) c (by unfold Cn at p⊢;exact B d.2 p)|>λh=>⟨h.1,λx=>aT d.11 (h.2 x)⟩⟩
 .refine B ae.10<|B ae.11 ?_;refine d.8▸aT d.9 ?_;exact m.8
 .refine B ae.6 ?_;have q:=ae.5.symm.trans f;exact m.9 q (λc=>B d.10 (w ((m.4.trans d.4).symm.trans q) c)) c
 .haveI:=a;rw[d.12,List.getElem?_take,bA n]at this;exact this
 .rw[e,d.12,List.take_take,Nat.min_eq_left (c9 n)]
 .refine az d.13 λu j=>aU j λA C=>?_;simp only[l,A,List.take_take,Nat.min_eq_left (C lv s a)]
 .rw[lt]at hL;refine aU (d.14 y g o (by lia)) λr v=>?_
  haveI E:=(m.lit y).mpr (by unfold a9 at g⊢;exact B d.1<|g)
  refine aU (ae.13 y E (by rw[m.val,r];exact o) (by simp only[lt,m.13,v];exact hL)) λG I=>?_
  exact⟨G.trans ((m.val y).trans r),I.trans ((congrFun m.13 _).trans v)⟩
 .haveI k:=ae.14 i y z hr;haveI a1:=k.1;haveI a2:=k.2.1;haveI L:=k.2.2;rw[m.11]at a1;rw[m.15]at a2;exact br (d.15 i y a1 a2) λb1 b2 b3=>aS b1 b2 (L.trans ((congrFun m.13 _).trans b3))
theorem Ng.ma(a:Ng t J)(q:(J.ps.length:Int)+t.rt<=t.ps.length+J.rt+1):Ma t J:=by
 obtain⟨_,_,_,_,_,_,_,_,_,rfl⟩:=a;exact⟨rfl,Nat.le_succ _,rfl,rfl,rfl,rfl,rfl,q,λY h=>h,rfl,rfl,rfl,rfl,rfl,rfl,λY h=>⟨h,λY=>Iff.rfl⟩⟩
theorem Ma.gf(a:Ma t J):Ma t (J.gf N p):=⟨a.1,a.2,a.3,a.4,a.5,a.6,a.7,a.8,a.9,a.10,a.11,a.12,a.13,a.14,a.15,a.16⟩
theorem Ma.j8(a:Ma t J)(hm:J.m<=t.m)(h:J.pf=false->s=none):Ma t (J.j8 xs s d x):=⟨a.1,Nat.succ_le_succ hm,a.3,a.4,a.5,a.6,a.7,a.8,λf n c=>by
 show aW J.st J.kW s c=none;unfold aW;split
 .exact h f
 .exact a.9 f n c,a.10,a.11,a.12,a.13,a.14,a.15,λc e=>by
 haveI b:=a.16 c e;haveI g:=b.1.1;haveI j:=b.1.2;haveI i:=b.2;refine⟨⟨g,by show c< ((J.m+1));lia⟩,λx=>?_⟩
 show x∈aW J.cl J.m xs c↔_;exact B (b7 (by lia)) (i x)⟩
theorem ado(M:Mem I t Z A)(S:So W t h)(wo:Wo W)(sh:∀(j:Nat) (d:Int),t.aK[j]? =some d->d<=t.hd)(hc:Cn t L)(hf:∀x∈t.cl L,t.val x= -1)(sm:t.m+1<12000000)(sl:t.pf=true->(t.ps.length:Int)+1<=14000000+t.rt)(n0:t.pf=false->∀c,t.st c=none)
 (q0:∀af bD J,hJ I bD->Mem bD J Z af->RB W t J->Q .none af) (q1:∀af bD J,hJ I bD->Mem bD J Z af->tW W t J->Q .none af):aA (k+9) .HB [me I,.int L] A Q:=by
 have S0:So W (t.iZ (t.cf+1) t.dc t.es t.fa t.fd t.ok) h:=S.iZ;refine⟨_,rfl,kA M (dz (bY M rfl rfl rfl) a8 rfl trivial) (O rfl) bb UH rfl λA M=>?_⟩;haveI M:Mem I (t.iZ (t.cf+1) t.dc t.es t.fa t.fd t.ok) Z A:=M;haveI b:=S0.1.1;refine oX M (O rfl) bb (aI (O rfl) aX) (ajc (k:=k+7) M b S0.1.4 hc λdM h1 h2 h3=>?_);obtain⟨n,rfl⟩:∃n:Nat,dM=n:=⟨dM.toNat,(Int.toNat_of_nonneg h3).symm⟩;have ajb:n<=t.aK.length:=by
  refine Or.elim h2 (λe=>?_) (λab8=>az ab8 λx ab9=>aU ab9 λhx e=>?_)
  .lia
  .have lx:=(S0.1.4.2 L x hc hx).1;haveI nx:=S0.1.3.neg lx (hf x hx);haveI:=(S0.1.3.6 _ _ nx.2.1).2.1;rw[dJ,e]at this;haveI:(n:Int)<=(t.aK.length:Nat):=this;lia
 have main:∀t1 fM A h1,hJ I fM->Mem fM t1 Z A->So W t1 h1->(∀(j:Nat) (d:Int),t1.aK[j]? =some d->d<=t1.hd)->Ho t t1->t1.aK.length=n->(∀x∈t1.cl L,t1.val x= -1/\t1.ae (U x)<=n)->(n=0\/∃x∈t1.cl L,t1.ae (U x)=n)->
  Ss (aA (k+8)) (Dg.drop 3) ((((aH.set (λY=>none) .X (me I)).set .gj (.int L)).set .dM (.int n))) A λfl Y A=>Q fl.val A:=by
  intro t1 fM A h1 o M P ah7 md ln AM ht;have sZ:Cn t1 L:=by unfold Cn at hc⊢;refine md.2▸?_;exact hc
  have l1:∀l:aH,l .X=some (me I)->l .X=some (me fM):=λl h=>h.trans (aP (λp=>some (V.ref p)) (o .aO).symm);have Qx:t1.pf=true->(t1.ps.length:Int)+1<=14000000+t1.rt:=λf=>by rw[md.8,md.9];exact sl (md.4▸f)
  refine bL (di (i:=n) (j:=0) (O rfl) a8 rfl) (λz=>?_) λz=>c7 ?_
  .have z:n=0:=by
    haveI:((n:Nat):Int)=0:=jX λe=>by replace z:=(dp e)▸z;cases z
    lia
   have z:=z.symm;subst z;refine eX M (O (l1 _ rfl)) bb (aI (O rfl) aX) (JQ (k:=k) M P.1.1 P.1.2 P.1.3 P.1.5 P.1.4 P.1.10 Qx sZ (λx hx=>⟨(AM x hx).1,?_⟩) λA G x M F=>cI ki (q0 A fM _ o M ?_))
   .haveI n1:=P.1.3.neg (P.1.4.2 L x sZ hx).1 (AM x hx).1;haveI:=(P.1.3.6 _ _ n1.2.1).1;rw[dJ]at this;exact Int.le_antisymm (AM x hx).2 this
   .haveI S2:Sb W ((G.sQ x).Gb false):=(P.1.uq F.1.1 F.2 (F.1.3 W wo P.1.11)).iZ (cf:=G.cf) (dc:=G.dc) (es:=x) (fa:=G.fa) (fd:=G.fd) (ok:=false);haveI v:=F.1.1.f;haveI aiW:G.aK=t1.aK:=by refine gz F.1.1 λY Y Y Y e=>?_;rw[e];rfl
    have Wb:G.fd=t1.fd:=by refine gz F.1.1 λY Y Y Y e=>?_;rw[e];rfl
    refine⟨S2,v.1.trans md.1,v.2.2.2.2.2.2.2.1.trans md.2,v.2.2.2.2.2.2.2.2.2.trans md.4,rfl,Wb.trans md.7,?_,λf c=>?_,λf=>?_,λf=>F.5 (md.4.trans f),?_,F.6 W wo P.1.11⟩
    .haveI:=F.3;rw[md.8,md.9]at this;exact this
    .show G.st c=none;rw[v.2.2.2.2.2.2.2.2.1,md.10];exact n0 (by refine md.4▸?_;refine v.2.2.2.2.2.2.2.2.2▸?_;exact f) c
    .show x=none;rw[F.4 (md.4.trans f),md.10];exact n0 f L
    .show G.aK=[];rw[aiW];exact List.length_eq_zero_iff.mp ln
  .have z:n≠0:=λe=>by replace z:=e▸z;exact nt z
   have D0:t1.aK.length≠0:=by rw[ln];exact z
   refine QD (iP M (O (l1 _ rfl)) bb (aI (O rfl) aX) (R3 (k:=k) M P.1.1 P.1.2 P.1.3 P.1.5 P.1.4 P.1.7 P.1.10 sZ (λx hx=>(AM x hx).1) P.1.9 (by refine ln▸?_;exact ht.resolve_left z) D0 λA eO G g_ p c x de pr o2 M hp adx np nc pc sb R=>GV ?_))
   have S2:So W G h1:=P.ng wo R;haveI f2:=R.1.f;have Bw:Ma t1 G:=R.1.ma (by haveI:=R.6;lia)
   have Pf:hJ I eO:=λc=>(o2 (.ob c) (bT.ne rfl)).trans (o c);have oL:Cn G L:=by unfold Cn at sZ⊢;refine f2.2.2.2.2.2.2.2.1▸?_;exact sZ
   have mb:∀y∈-x::de,a9 G y/\G.val y= -1:=λy E=>by
    rcases dW.mp E with e|h
    .rw[e];exact⟨R.9.1.n,by rw[kX R.9.1.1,R.9.2.1]⟩
    .exact⟨(R.11 y h).1,(R.11 y h).2.1⟩
   have nd:(-x::de).Nodup:=jb.mpr ⟨λh=>(R.11 _ h).2.2.2 (by rw[dJ];exact R.9.2.2.2),R.10⟩
   have dn:∀y∈-x::de,-y∉-x::de:=λy E h=>by
    have a:=(mb y E).2;haveI b:=(mb _ h).2;replace b:=(kX (mb y E).1.1)▸b;replace b:=a▸b;injection b
   have l5:(-x::de).length<=5:=by
    haveI:=pW (n:=G.n) (l:=(-x::de).map U) (rP nd λa ha b hb e=>oI (mb a ha).1 (mb a ha).2 (mb b hb).2 e) λw hw=>by
     refine az (cW.mp hw) λy xp=>aU xp λE ZP=>?_;clear xp;subst ZP;exact(mb y E).1.U
    rw[b9]at this;exact aV this S2.1.1.1
   have bZ:∀lU A t3 N (l:aH),hJ eO lU->Mem lU t3 g_ A->Sx W t3 h1 N->oA t3 t3.ws N->Ma t1 t3->(-x::de).Perm (t3.cl N)->l .X=some (me lU)->l .bR=some (.ref p)->l .bO=some (.int N)->Ss (aA (k+8)) EK l A λfl Y A=>Q fl.val A:=λlU A t3 N l o3 M S3 wx m pm l1 l2 l3=>by
    have v3:∀y,t3.val y=G.val y:=λy=>(m.val y).trans (Bw.val y).symm;have L3:∀w,t3.ae w=G.ae w:=λw=>(congrFun m.13 w).trans (congrFun Bw.13 w).symm;have s3:t3.aK=G.aK:=m.10.trans Bw.10.symm;exact ae' (k:=k) M S3 wx hp pm (m.10.symm▸D0) ((v3 x).trans R.9.2.1) (by rw[L3,s3];exact R.9.2.2.2) (λy E=>⟨(v3 y).trans (R.11 y E).2.1,by rw[L3,s3];exact(R.11 y E).2.2.2⟩) (λj d e=>by rw[m.14];rw[m.10]at e;exact ah7 j d e) l1 l2 l3 λA yP t4 jL o4 M ahT ae=>q1 A yP t4 (λc=>(o4 c).trans ((o3 c).trans (Pf c))) (M.fD λy x h=>ahT _ _ (sb _ _ h)) (tW.mk' md m ae n0)
   refine B6 (kL (aI (O rfl:Ev _ _ _ _ (.ref p)) aX) (ug (k:=k+6) M (.inl hp) (df l5 (by decide)) λA ys M sd=>yH (w:=.int L) (O rfl) ?_))
   have l0:∀l:aH,l .X=some (me I)->l .X=some (me eO):=λl h=>h.trans (aP (λp=>some (V.ref p)) (Pf .aO).symm);haveI ae2:=S2.1.1.5 L oL.1 oL.2;refine tN (Vs (v:=.aE (Zl ys)) (O rfl) (kL (aI (mc M S2.1.1 (fG M (O (l0 _ rfl)) rfl bb rfl) (O rfl) oL) aX) (ug (k:=k+6) M (.inr ⟨.c L,rfl,js oL⟩) (df ae2 (by decide)) λA zs M sz=>⟨_,Jy,th (λe=>?_) λe=>?_⟩)))
   .have ly:=aV sd.len l5;have td:=sd.td (λy E=>(mb y E).1.1) dn;have fy:=D3 S2.1.3.tv R.8.1 td λz=>(sd.1 z).trans ⟨λh=>⟨(mb z h).1,(mb z h).2,z,h,rfl⟩,λ⟨a,b,y,E,g⟩=>(oI (mb y E).1 (mb y E).2 b g)▸E⟩;haveI py:(-x::de).Perm ys:=List.perm_iff_count.mpr λa=>by rw[nd.count,sd.nd.count];simp only[sd.1]
    haveI VI:=fy▸R.8.3 W wo S2.1.11;have st:∀A t3 (s:Option Int) (l:aH),Mem eO t3 g_ A->So W t3 h1->Ng t1 t3->(t3.ps.length:Int)+t1.rt<=t1.ps.length+t3.rt+1->(t3.pf=true->∃s0,s=some s0/\Sn t3 s0/\t3.cs s0=ys)->(t3.pf=false->s=none)->l .X=some (me eO)->l .bR=some (.ref p)->l .eJ=some (.aE (Zl ys))->l .step=some (oi s)->
     Ss (aA (k+8)) [.bP .bO (.aZ (.var .X) .aO .zg [.var .eJ,.var .step,.dw .gt (.b1 .len (.var .bR)) (.int 1)])] l A (Nx (aA (k+8)) EK λfl Y A=>Q fl.val A):=λA t3 s l M S3 g3 q3 hs hn l1 l2 l3 l4=>by
     haveI f3:=g3.f;have afD:=g3.ma q3;refine oX M (O l1) bb (aI (O l3) (aI (O l4) (aI (eP (op:=.gt) (JF M (O l2) (.inl hp) (by rw[cj];exact aV l5 (bt rfl)) rfl) a8 rfl) aX))) (QO (k:=k+7) M S3.1.1 S3.1.2.1 S3.1.2.2 S3.1.2.3 λa af x' M=>d9 ?_)
     have lt:∀y,a9 t3 y↔a9 G y:=λy=>by unfold a9;rw[f3.1,f2.1]
     haveI sk:=S3.1.sc.ou (ys:=ys) (s:=s) (d:=decide (((Zl (-x::de)).length:Int)>1)) (x:=x') (by refine f3.2.2.2.2.2.2.2.1▸?_;refine md.2▸?_;exact sm) sd.nd (λy E=>⟨(lt y).mpr (mb y ((sd.1 y).mp E)).1,λh=>dn y ((sd.1 y).mp E) ((sd.1 _).mp h)⟩) ly (λf=>by
      refine gn λkG=>?_;refine az (hs f) λs0 MR=>br MR λe1 e2 e3=>?_;refine kG ?_;clear MR;exact⟨s0,e1,e2,by rw[e3];exact td,λz=>by rw[e3]⟩) VI
     exact bZ (lI eO t3.m a) af _ t3.m (l.set .bO (.int t3.m)) (λY=>rfl) M (S3.ou sk) S3.1.6.ou (afD.j8 (by refine f3.2.2.2.2.2.2.2.1▸?_;exact dR _) hn) (py.trans (by show ys.Perm (aW t3.cl t3.m ys t3.m);rw[cU])) l1 l2 rfl
    have oF:=sR (C:=aA (k+8)) (a:=.aC (.var .X) .cK) (i:=.var .gj) M S2.1.1 S2.1.2 (fG M (O (l0 ((((((aH.set (λY=>none) .X (me I)).set .gj (.int L)).set .dM (.int n)).set .bR (.ref p)).set .eH (.ref c)).set .eJ (.aE (Zl ys))|>.set .bO (.int L)) rfl)) rfl bb rfl) (O rfl) oL;cases f:G.pf with
    |false=>
     have no:G.st L=none:=by rw[f2.2.2.2.2.2.2.2.2.1,md.10];exact n0 (by refine md.4▸?_;refine f2.2.2.2.2.2.2.2.2.2.1▸?_;exact f) L
     refine gF (iP M (O (l0 _ rfl)) bb (aI (O rfl:Ev _ _ _ _ (.aE (Zl ys))) (aI oF (aI (O rfl:Ev _ _ _ _ (.ref c)) aX))) (FQ (k:=k+7) M f _ (st A G _ _ M S2 R.1 (by haveI:=R.6;lia) (λh=>by replace h:=f▸h;exact nf h) (λY=>no) (l0 _ rfl) rfl rfl rfl)))
    |true=>
     refine cF (R.8.2 f) λs0 ps MS=>eY MS λr1 r2 r3 r4 r5=>?_;clear MS;rw[<-fy]at r5;rw[r1]at oF;have P2:=S2.1.10 f;have hZ:=P2.bp S2.1.1;haveI bp:=hZ.1;haveI bl:=hZ.2;haveI ec:gV pr=gW ps:=by
      rw[r4];unfold gV gW ku;rw[fk];rfl
     haveI FT:ps.length<=20:=by haveI:=R.12;rw[r4]at this;unfold ku at this;rwa[b9]at this
     refine gF (iP M (O (l0 _ rfl)) bb (aI (O rfl:Ev _ _ _ _ (.aE (Zl ys))) (aI oF (aI (O rfl:Ev _ _ _ _ (.ref c)) aX))) (Bq (k:=k+3) M bp r2 r3 r5 (.inl (by rw[adx,ec])) (df FT (by decide)) bl λA t3 s M lg=>?_))
     have g3:=lg.gr (λW w aB=>r5.uz w (aB.2 f) (aB.2 f s0 r2)) f;haveI yA:t3.rt=G.rt:=by refine Or.elim lg.1 (λe=>?_) (λab_=>d7 ab_ λY Y Y e=>?_)<;>rw[e]<;>rfl
     haveI GD:(G.ps.length:Int)+1<=14000000+G.rt:=by haveI:=R.6;haveI:=Qx (f2.2.2.2.2.2.2.2.2.2.1▸f);lia
     haveI P3:=lg.pf P2 ⟨df ly (by decide),λy E=>(mb y ((sd.1 y).mp E)).1⟩ GD g3.2
     exact st A t3 (some s) _ M (S2.uq g3.1 (λY=>P3) (g3.3 W wo S2.1.11)) (R.1.trans (.uq g3.1)) (by haveI:=lg.len;haveI:=R.6;lia) (λY=>⟨s,rfl,lg.2,lg.3⟩) (λh=>by replace h:=P3.1▸h;exact nt h) (l0 _ rfl) rfl rfl rfl
   .haveI ez:ys=zs:=jX λg=>by replace e:=(dp g)▸e;exact nt e
    have pm:(-x::de).Perm (G.cl L):=List.perm_iff_count.mpr λa=>by rw[nd.count,(S2.1.4.1 L oL).count];simp only[<-sd.1,ez,sz.1]
    haveI hZ:=S2.4 L oL;haveI ajm:=hZ.1;haveI u1:=hZ.2;haveI hv:=λy E=>(mb y (pm.mem_iff.mpr E)).2;refine gn λkG=>?_;obtain⟨a,b,r,e2⟩:∃a b r,G.cl L=a::b::r:=by
     match hh:G.cl L with
     |[]=>exact absurd hh ajm
     |[a]=>
      haveI:=hv a (by rw[hh];exact bE ..)
      replace this:=((u1 a hh).1)▸this;injection this
     |a::b::r=>exact d_ a b r rfl
    refine kG ?_;refine eX M (O (l0 _ rfl)) bb (aI (O rfl:Ev _ _ _ _ (.int L)) aX) (ajq (k:=k+6) M S2.1.1 S2.1.4 oL e2 λA lU o3 M=>d9 ?_);exact bZ lU A _ L _ (λc=>o3 _ λY h=>nomatch h) M (S2.sx oL).gf (S2.1.6.gf e2) Bw.gf.gf pm (by
     refine(l0 _ rfl).trans (aP (λp=>some (V.ref p)) (o3 (.ob .aO) λY h=>nomatch h).symm)) rfl rfl
 refine eX M (O rfl) bb (aI (O rfl) aX) (qZ (k:=k+3) M b S0.1.3 S0.1.7 (λq=>?_) λs A fM f g u hl pl hs nJ M C=>?_)
 .haveI e:=Nat.le_antisymm q ajb;exact main _ I A h (λY=>rfl) M S0 sh ⟨rfl,rfl,rfl,rfl,rfl,rfl,rfl,rfl,rfl,rfl,rfl,(List.take_length ..).symm,⟨t.tr.length,(List.take_length ..).symm,λj d e=>by haveI:=(S0.1.3.5 j d e).2.1;haveI:d<=(t.tr.length:Int):=this;lia⟩,λY Y Y Y=>⟨rfl,rfl⟩,λY Y h g=>aS h g rfl⟩ e (λx hx=>⟨hf x hx,h1 x hx⟩) (h2.elim (λe=>.inl (by lia)) .inr)
 .haveI hZ:=S0.dh (u:=u) hs C (sh n s hs);haveI P:=hZ.1;haveI adz:=hZ.2.1;haveI akA:=hZ.2.2;haveI ln:(((t.iZ (t.cf+1) t.dc t.es t.fa t.fd t.ok).dh f g u hl pl s n).aK).length=n:=by
   show(t.aK.take n).length=n;rw[k9];lia
  have jI:∀x,a9 t x->t.val x≠0->t.ae (U x)<=n->((t.iZ (t.cf+1) t.dc t.es t.fa t.fd t.ok).dh f g u hl pl s n).val x=t.val x:=λx lx vx Lx=>by
   haveI FW:=lx;refine az (S0.1.3.v FW.fu (ni S0.1.3.tv FW vx)) λy MT=>br MT λa1 a2 a3=>?_;clear MT;have a4:=(l7 S0.1.3 hs a1).mpr (by rw[a2];exact Lx)
   exact pF C FW (by lia)
  refine main _ fM A s (λc=>nJ _ (bT.ne rfl) λe=>nomatch e) M P (λj d e=>by rw[adz];exact P.3.3 j d e) ⟨rfl,rfl,rfl,rfl,rfl,rfl,rfl,rfl,rfl,rfl,rfl,?_,⟨s.toNat,rfl,λj d e=>?_⟩,λx lx vx Lx=>?_,λi y E hr=>?_⟩ ln (λx hx=>⟨?_,h1 x hx⟩) (h2.imp (λe=>by lia) id)
  .rw[ln];rfl
  .have:=P.3.3 j d e;lia
  .rw[ln]at Lx;exact⟨jI x lx vx Lx,rfl⟩
  .haveI E:=E;haveI hr:=hr;replace E:=List.getElem?_take▸E
   split at E
   .haveI h5:=S0.1.3.3 i y E;haveI h6:t.S (U y)=i:=h5.2.2;haveI e5:=C.2 _ h5.1.fu (by lia:t.S (U y)<s)
    exact aS E (e5.symm.trans hr) rfl
   .exact nn E
  .haveI lx:=(S0.1.4.2 L x hc hx).1;exact(jI x lx (by rw[hf x hx];decide) (h1 x hx)).trans (hf x hx)
theorem Sk.sb(S:Sk W t)(a:gJ t t.ws):Sb W t:=⟨S.1,S.2,S.3,S.4,S.5,a,S.6,S.7,S.8,S.9,S.10⟩
theorem Sx.ok(S:Sx W t h N)(i:gJ t t.ws)(w:∀a b r,t.cl N=a::b::r->∀u w,(u=a/\w=b\/u=b/\w=a)->t.val u= -1->t.val w=1/\t.ae (U w)<=t.ae (U u))(un:t.cl N≠[]/\∀x,t.cl N=[x]->t.val x=1/\t.ae (U x)=0):So W t h:=
 ⟨S.1.sb i,λc a b r d e u f hu g hs=>.inr (by
   refine dx (c=N) (λq=>?_) (λq=>?_)
   .haveI q:=q.symm;subst q;exact w a b r e u f hu g
   .exact(S.2 c a b r d e u f hu g hs).resolve_left q),S.3,λc d=>by
   rcases cY (c=N)with q|q
   .exact B q un
   .exact S.4 c d q⟩
theorem cB.G6(a:cB t)(b:a9 t x):t.val x=0\/t.val x=1\/t.val x= -1:=by
 rw[lM];refine Or.elim (a.1 _ b.fu) (λe=>?_) (λc=>Or.elim c (λe=>?_) λe=>?_)<;>refine B e ?_<;>split<;>simp
theorem V8(h:Ev C l A e (.bool true)):qO C l A (e::es) true:=kj (c:=true) h nt
theorem z9(h:Ev C l A e (.bool false))(g:qO C l A es c):qO C l A (e::es) c:=by
 haveI:=kj h λY=>g;rwa[Bool.false_or]at this
theorem z8(h:Ev C l A e (.bool b)):qO C l A [e] b:=by
 haveI:=kj h λY=>w8;rwa[Bool.or_false]at this
def Pl(t J:T):Prop:=CL
 (J.n=t.n)
 (J.m=t.m)
 (J.ok=t.ok)
 (J.pf=t.pf)
 (J.st=t.st)
 (J.es=t.es)
 (J.fa=t.fa)
 (J.fd=t.fd)
 (J.ps=t.ps)
 (J.rt=t.rt)
 (J.hd=t.hd)
 (J.aK=t.aK)
 (Mc t J)
theorem ajl{a:Type}{l:List a}(h:1<l.length):∃x y r,l=x::y::r:=by
 cases l with
 |nil=>exact absurd h (Nat.not_lt_zero _)
 |cons x l=>cases l with
  |nil=>exact absurd h (Nat.lt_irrefl _)
  |cons y r=>exact d_ x y r rfl
noncomputable def qy(I:bT->Nat)(N:Int)(p:Nat):aH:=((aH.set (λY=>none) .X (me I)).set .bO (.int N)).set .bR (.ref p)
theorem ahh(M:Mem I t Z A)(S:Sx W t h N)(wx:oA t t.ws N)(s0:t.aK=[])
 (q0:∀G L J,hJ I L->Mem L J Z G->So W J h->Pl t J->Q (.int (-1)) G)
 (q1:∀G L J,hJ I L->Mem L J Z G->Sb W J->Pl t J->Cn J N->(∀x∈J.cl N,J.val x= -1/\J.ae (U x)=0)->Q (.int N) G):aA (k+6) .HO [me I,.int N] A Q:=by
 have b:=S.1.1;have z0:t.aK.length=0:=by rw[s0];rfl
 have lk:=b.5 N S.5.1 S.5.2;have cls:∀l:aH,l .X=some (me I)->l .bO=some (.int N)->Ev (aA (k+5)) l A (.aQ (.aC (.var .X) .fS) (.var .bO)) (.ref (I (.c N))):=λl a b'=>mc M b (fG M (O a) rfl bb rfl) (O b') S.5;have aY:Ss (aA (k+5)) (Di.drop 1) ((aH.set (λY=>none) .X (me I)).set .bO (.int N)) A λfl Y A=>Q fl.val A:=by
  refine oX M (O rfl) bb (aI (cls _ rfl rfl) aX) (Iw M b (.inr ⟨.c N,rfl,js S.5⟩) (df lk (by decide)) (λx m=>(S.1.4.2 N x S.5 m).1) λA p ks np M pk hw=>?_)
  refine B8 (O rfl _ (Qt M b (bY M rfl rfl rfl) (O rfl) S.5 H.bC λA M=>?_));have M:=M.fD (DH np);have hp:lI I N p (.c N)=p:=bA rfl;have S4:=S.cu pk;have b4:=S4.1.1;have c4:(t.cu N ks).cl N=ks:=nY;have lit:=λy n=>S.1.4.2 N y S.5 (pk.mem_iff.mp n);have l1:∀l:aH,l .X=some (me I)->l .X=some (me (lI I N p)):=λY h=>h;have L0:∀x,a9 t x->t.val x≠0->t.ae (U x)=0:=λx lx vx=>by
   refine az (S.1.3.v lx.fu (ni S.1.3.tv lx vx)) λy ab5=>br ab5 λa1 a2 a3=>?_;haveI:=S.1.3.6 _ _ a1;replace this:=a2▸this;haveI:=(S.1.3.6 _ _ a1).1;rw[a2]at this;lia
  have tail:∀d A,Mem (lI I N p) d Z A->Sx W d h N->gJ d d.ws->d.cl N=ks->Pl t d->d.ae=t.ae->d.aa=t.aa->
   Ss (aA (k+5)) (Di.drop 4) (qy I N p) A λfl Y A=>Q fl.val A:=by
   intro d A j S5 P C pl eL eA;have b5:=S5.1.1;haveI z5:d.aK.length=0:=B pl.12 z0;have E:∀y,d.val y=t.val y:=λy=>by unfold T.val;exact B eA rfl
   have l5:∀y,a9 d y↔a9 t y:=λy=>by unfold a9;rw[pl.1]
   have len:∀{x:Int},ks.length=x->Ev (aA (k+5)) (qy I N p) A (.b1 .len (.var .bR)) (.int x):=λe=>uE j b5 S5.5 (O (aP (λp=>some (V.ref p)) hp.symm)) (aT C.symm e);have wt:∀{i:Nat} {y:Int},ks[i]? =some y->Ev (aA (k+5)) (qy I N p) A (.aQ (.var .bR) (.int i)) (.int y):=λn=>nD j b5 (O (aP (λp=>some (V.ref p)) hp.symm)) a8 S5.5 (aT C.symm n);have val:∀{i:Nat} {y:Int},ks[i]? =some y->Ev (aA (k+5)) (qy I N p) A (.aZ (.var .X) .aO .ic [.aQ (.var .bR) (.int i)]) (.int (d.val y)):=λn=>gA j (O (l1 _ rfl)) bb (aI (wt n) aX) (qL j b5.1 ((l5 _).mpr (lit _ (jq n)).1));have o5:hJ I (lI I N p):=λY=>rfl;cases ks with
   |nil=>
    refine bL (mU (V8 (di (len rfl) a8 rfl))) (λY=>cI (O rfl) (q1 A _ d o5 j (S5.1.sb P) pl S5.5 λx m=>by replace m:=C▸m;cases m)) nt
   |cons a r=>
    have la:=(lit a (bE ..)).1;refine bL (b:=decide (d.val a= -1)) (mU (z9 (di (i:=r.length+1) (len rfl) a8 (by refine B (dp (by lia)) ?_;rfl)) (z8 (di (val rfl) eG (by cases decide (d.val a= -1)<;>rfl))))) (λz=>?_) λz=>c7 ?_
    .have va:=dQ z;haveI all:∀x∈a::r,t.val x= -1:=λx m=>by
      rcases dW.mp m with e|e
      .rw[e,<-E];exact va
      .refine jX λg=>?_;haveI:=(List.pairwise_cons.mp hw).1 x e;unfold T.rC at this;rw[bx g,bA (by rw[<-E];exact va),L0 a la (by rw[<-E,va];decide)]at this
       lia
     exact cI (O rfl) (q1 A _ d o5 j (S5.1.sb P) pl S5.5 λx m=>by
      rw[C]at m;exact⟨(E x).trans (all x m),(congrFun eL _).trans (L0 x (lit x m).1 (by rw[all x m];decide))⟩)
    .have va:d.val a≠-1:=gZ z;have bZ:∀A L t6,hJ I L->Mem L t6 Z A->So W t6 h->Pl t t6->∀l:aH,Ss (aA (k+5)) [.ret (.dO "NO_CLAUSE" (-1))] l A λfl Y A=>Q fl.val A:=λA L t6 o M S pl l=>cI eG (q0 A L t6 o M S pl);refine bL (b:=decide (d.val a=0)) (di (val rfl) eG (by cases decide (d.val a=0)<;>rfl)) (λz=>?_) λz=>c7 ?_
     .have v0:=dQ z;have cG:∀A R,Mem (lI I N p) d Z A->(∀y∈r,d.val y= -1)->(∀G,Ss (aA (k+5)) [.ret (.dO "NO_CLAUSE" (-1))] (qy I N p) G (λfl Y A=>Q fl.val A)->R .next (qy I N p) G)->Ss (aA (k+5)) [.expr (.aZ (.var .X) .aO .pE [.aQ (.var .bR) (.int 0),.var .bO])] (qy I N p) A R:=λA R M hr hR=>
       eX M (O (l1 _ rfl)) bb (aI (nD (k:=0) M b5 (O (aP (λp=>some (V.ref p)) hp.symm)) a8 S5.5 (by refine B C ?_;rfl)) (aI (O rfl) aX)) (wY M b5 ((l5 a).mpr la) λA M=>d9 (hR A (bZ A _ _ o5 M (S5.bZ P C v0 hr (λY=>z5) λy r' e=>by
        haveI n:=hr y (B e (bE ..));exact B z5<|B eL<|L0 y (lit y (B e<|cP _ (bE ..))).1 (by rw[<-E,n];decide)) pl _)))
      refine bL (b:=decide ((r.length:Int)+1=1)) (di (len rfl) a8 (by show(decide ((r.length:Int)+1=1) !=false)=_;cases decide ((r.length:Int)+1=1)<;>rfl)) (λz=>cG A _ j (λy n=>?_) λG g=>c_ (c7 g)) λz=>?_
      .haveI e:r=[]:=List.length_eq_zero_iff.mp (by lia)
       replace n:=e▸n;cases n
      .have z:=gZ z;refine gn λkG=>?_;obtain⟨y,r',rfl⟩:∃y r',r=y::r':=by
        cases r with
        |nil=>exact absurd rfl z
        |cons y r'=>exact cE y r' rfl
       refine kG ?_;have ly:=(lit y (cP _ (bE ..))).1;refine bL (b:=decide (d.val y= -1)) (di (val rfl) eG (by cases decide (d.val y= -1)<;>rfl)) (λz=>?_) λz=>c_ (c_ (c7 ?_))
       .have vy:=dQ z;haveI iy:=((l5 y).mpr ly).fu;haveI arg:Ev (aA (k+5)) (qy I N p) A (.aQ (.aC (.var .X) .iR) (.b1 .abs (.aQ (.var .bR) (.int 1)))) (.int ((0:Nat))):=eF j (fG j (O (l1 _ rfl)) rfl bb rfl) (fO (wt rfl) rfl) rfl b5.1 (aP V.int ((congrFun eL _).trans (L0 y ly (by rw[<-E,vy];decide)))) iy
        refine eX j (O (l1 _ rfl)) bb (aI arg aX) (qZ j b5 S5.1.3 S5.1.6 (λY=>cG A _ j (λw xV=>?_) λG g=>c_ (c_ (c7 g))) λs A I f g u hl rT hs=>?_)
        .haveI h2:=(List.pairwise_cons.mp hw).2;rcases dW.mp xV with e|e
         .exact B e vy
         .refine(E w).trans (jX λg=>?_);haveI:=(List.pairwise_cons.mp h2).1 w e;unfold T.rC at this;rw[bx g,bA (by rw[<-E];exact vy),L0 y ly (by rw[<-E,vy];decide)]at this
          lia
        .haveI:=List.length_eq_zero_iff.mp z5;replace hs:=this▸hs;exact nn hs
       .have vy:=gZ z;refine bZ A _ d o5 j (S5.ok P (λa' b' aks e u w hu hv=>?_) ⟨B C λh=>List.cons_ne_nil _ _ h,λx e=>by replace e:=C▸e;cases e⟩) pl _
        replace e:=C▸e;cases e;rcases hu with⟨rfl,rfl⟩|⟨rfl,rfl⟩
        .exact absurd hv va
        .exact absurd hv vy
     .have v1:d.val a=1:=by
       haveI:=gZ z;exact(S5.1.3.G6 ((l5 a).mpr la)).elim (λe=>absurd e this) λh=>h.resolve_right va
      refine bZ A _ d o5 j (S5.ok P (λa' b' r' e u w hu hv=>?_) ⟨B C λh=>List.cons_ne_nil _ _ h,λx e=>?_⟩) pl _
      .replace e:=C▸e;cases e;clear len wt val;rcases hu with⟨rfl,rfl⟩|⟨rfl,rfl⟩
       .replace hv:=v1▸hv;injection hv
       .have lu:=(lit u (cP _ (bE ..))).1;exact⟨v1,by simp only[eL,L0 w la (by rw[<-E,v1];decide),L0 u lu (by rw[<-E,hv];decide)];exact g8 _⟩
      .replace e:=C▸e;injection e with e;subst e
       exact⟨v1,B eL (L0 a la (by rw[<-E,v1];decide))⟩
  have len:Ev (aA (k+5)) (qy I N p) A (.b1 .len (.var .bR)) (.int ks.length):=uE M b4 S4.5 (O (aP (λp=>some (V.ref p)) hp.symm)) (B c4 rfl);refine bL (eP len a8 rfl) (λz=>?_) λz=>c7 ?_
  .refine gn λkG=>?_;obtain⟨x,y,r,hk⟩:=ajl (g9.mp (dQ z));refine kG ?_;have lx:=(lit x (B hk (bE ..))).1;have ly:=(lit y (B hk (cP _ (bE ..)))).1;haveI ne:x≠y:=λq=>by
    haveI nd:=pk.nodup_iff.mpr (S.1.4.1 N S.5);rw[hk,q]at nd;exact(jb.mp nd).1 (bE ..)
   haveI wl:∀p,(t.ws p).length<15000000:=λp=>df (wx.len p) (Nat.lt_trans b.4 (by decide))
   refine eX M (O (l1 _ rfl)) bb (aI (O rfl) aX) (Rl M b4 S4.5 (by refine B c4 ?_;refine B hk ?_;rfl) (by refine B c4<|B hk ?_;rfl) lx ly wl λA M=>c7 ?_)
   have P:=wx.Rk S.5 hk lx.1 ly.1 ne;exact tail _ A M (S4.k0 λp=>aV (gJ.len P p) (c9 (Nat.lt_trans b.4 (by decide)))) ⟨P.1,P.2,P.3⟩ c4 ⟨rfl,rfl,rfl,rfl,rfl,rfl,rfl,rfl,rfl,rfl,rfl,rfl,λc h=>⟨h,λx=>(mP pk c).mem_iff⟩⟩ rfl rfl
  .haveI z:=gZ z;exact tail _ A M S4 (wx.cC (by lia)) c4 ⟨rfl,rfl,rfl,rfl,rfl,rfl,rfl,rfl,rfl,rfl,rfl,rfl,λc h=>⟨h,λx=>(mP pk c).mem_iff⟩⟩ rfl rfl
 refine⟨_,rfl,bL (eP (uE M b S.5 (cls _ rfl rfl) rfl) a8 rfl) (λY=>eX M (O rfl) bb (aI a8 aX) (qZ (lv:=0) M b S.1.3 S.1.6 (λY=>d9 aY) λs A I f g u hl rT hs=>?_)) λY=>c7 aY⟩;replace hs:=s0▸hs;exact nn hs
def gQ(W:(Int->Prop)->Prop)(t:T):Prop:=Q5
 (t.ok=true->So W t t.hd)
 (t.ok=false->Sb W t/\t.aK=[]/\∀h,¬W h)
 (t.ok=false->t.pf=false->t.es=none)
 (t.ok=false->t.pf=true->∃s,t.es=some s/\Sn t s/\t.cs s=[])
 (t.pf=false->∀c,t.st c=none)
theorem gO.b_(aB:gO W t)(h:∀w,a w->W w):gO a t:=⟨λc b w hw=>aB.1 c b w (h w hw),λf s hs w hw=>aB.2 f s hs w (h w hw)⟩
theorem Sb.b_(S:Sb W t)(h:∀w,a w->W w):Sb a t:=⟨S.1,S.2,S.3,S.4,S.5,S.6,S.7,S.8,S.9,S.10,S.11.b_ h⟩
theorem So.b_(S:So W t h)(g:∀w,a w->W w):So a t h:=⟨S.1.b_ g,S.2,S.3,S.4⟩
theorem gQ.sb(S:gQ W t):Sb W t:=by
 cases f:t.ok with
 |true=>exact(S.1 f).1
 |false=>exact(S.2 f).1
theorem gQ.b_(S:gQ W t)(g:∀w,a w->W w):gQ a t:=
 ⟨λf=>(S.1 f).b_ g,λf=>aS ((S.2 f).1.b_ g) ((S.2 f).2.1) λh w=>(S.2 f).2.2 h (g h w),S.3,S.4,S.5⟩
theorem gQ.dh(S:gQ W t)(hs:t.aK[0]? =some s)(C:m8 t s f g a p):gQ W (t.dh f g u a p s 0):=by
 have ok:t.ok=true:=by
  cases e:t.ok with
  |true=>rfl
  |false=>replace hs:=((S.2 e).2.1)▸hs;exact nn hs
 haveI b:=S.1 ok;refine br (b.dh (u:=u) hs C (b.3.3 0 s hs)) λc d h=>?_;haveI no:(t.dh f g u a p s 0).ok=false->False:=λe=>by
  replace e:=ok▸e;exact nt e
 exact⟨λY=>aT d.symm c,λe=>(no e).elim,λe=>(no e).elim,λe=>(no e).elim,S.5⟩
def RJ(t t3:T):Prop:=Q9
 (t3.n=t.n)
 (t3.m=t.m+1)
 (t3.ok=t.ok)
 (t3.pf=t.pf)
 (t3.ps=t.ps)
 (t3.rt=t.rt)
 (t3.hd=t.hd)
 (t3.aK=t.aK)
 (Mc t t3)
theorem Pl.j8(pl:Pl (t.j8 xs s d x) t3):RJ t t3:=⟨pl.1,pl.2,pl.3,pl.4,pl.9,pl.10,pl.11,pl.12,λc a=>pl.13 c ⟨a.1,by show c< ((t.m+1));have:=a.2;lia⟩|>λh=>⟨h.1,λy=>(h.2 y).trans (by show y∈aW t.cl t.m xs c↔_;rw[b7 (by have:=a.2;lia)])⟩⟩
def Hg(W:(Int->Prop)->Prop)(xs:List Int)(t J:T):Prop:=Q7
 (gQ W J)
 (J.n=t.n)
 (J.m<=t.m+1)
 (J.pf=t.pf)
 (J.ps.length+t.rt<=t.ps.length+J.rt+1)
 (J.aK=[])
 (J.ok=true->t.ok=true/\Mc t J/\((∃x∈xs,-x∈xs)\/∃c,Cn J c/\∀x,x∈J.cl c↔x∈xs))
theorem Vv(M:Mem I t Z A)(h:Ev C l A o (.ref (I (.ob c))))(lv:jJ c t.pf .code≠none)(a:aB C e l A λv b=>C f [.ref (I (.ob c)),v] b R):aB C (.aZ o c f [e]) l A R:=
 h _ ⟨d_ _ _ _ (aS rfl ((M.ob c lv).1) ((M.ob c lv).2)),a⟩
theorem RQ(M:Mem I t Z A)(S:gQ W t)(Rm:Wo P)(g:∀w,P w->W w)(gx:iz P xs)(hp:Z p=some (.list (Zl xs)))(l5:xs.length<=5)(lx:∀x∈xs,a9 t x)(sm:t.m+1<12000000)(sl:t.pf=true->(t.ps.length:Int)+1<=14000000+t.rt)
 (h0:t.pf=false->s=none) (h1:t.pf=true->(∀x∈xs,-x∉xs)->∃s0,s=some s0/\Sn t s0/\Td (t.cs s0)/\∀x,x∈t.cs s0↔x∈xs)
 (q:∀af R J,hJ I R->Mem R J Z af->Hg P xs t J->Q (.bool J.ok) af):aA (k+9) .Hv [me I,.ref p,oi s] A Q:=by
 refine⟨_,rfl,gF (kL (aI (O rfl) aX) (ug M (.inl hp) (df l5 (by decide)) λA ys M E=>?_))⟩
 haveI ly:=aV E.len l5;have main:∀t1 L A,hJ I L->Mem L t1 Z A->gQ W t1->t1.aK=[]->t1.n=t.n->t1.m=t.m->t1.pf=t.pf->t1.ps=t.ps->t1.rt=t.rt->Mc t t1->t1.ok=t.ok->
  Ss (aA (k+8)) (Ic.drop 2) (((((aH.set (λY=>none) .X (me I)).set .bR (.ref p)).set .step (oi s))).set .eJ (.aE (Zl ys))) A λfl Y A=>Q fl.val A:=by
  intro t1 L A o M S1 z1 en em ep es er By eo;haveI yn:∀y,a9 t1 y↔a9 t y:=λy=>by unfold a9;rw[en]
  have l1:∀l:aH,l .X=some (me I)->l .X=some (me L):=λl h=>h.trans (aP (λp=>some (V.ref p)) (o .aO).symm);have bZ:∀A R t2 l,hJ I R->Mem R t2 Z A->l .X=some (me I)->Hg P xs t t2->Ss (aA (k+8)) [.ret (.aC (.var .X) .nK)] l A λfl Y A=>Q fl.val A:=λA R t2 l o M h aa=>cI (fG M (O (h.trans (aP (λp=>some (V.ref p)) (o .aO).symm))) rfl bb rfl) (q A R t2 o M aa);haveI RY:Ev (aA (k+8)) (((((aH.set (λY=>none) .X (me I)).set .bR (.ref p)).set .step (oi s))).set .eJ (.aE (Zl ys))) A (.call .Fe [.var .eJ]) (.bool (@decide (∃x∈ys,-x∈ys) (Classical.propDecidable _))):=nE (aI (O rfl) aX) λQ q=>RZ E.2 (df ly (by decide)) (λh=>by rw[@decide_eq_true _ (Classical.propDecidable _) h]at q;exact q) λh=>by
   rw[@decide_eq_false _ (Classical.propDecidable _)]at q
   .exact q
   .rintro⟨x,hx,hn⟩;have z:=(lx x ((E.1 x).mp hx)).1;obtain⟨i,hi,ei⟩:=List.mem_iff_getElem.mp hx;obtain⟨j,hj,ej⟩:=List.mem_iff_getElem.mp hn;have pw:=List.pairwise_iff_getElem.mp h;rcases Nat.lt_trichotomy i j with a|a|a
    .have:=pw i j hi hj a;rw[ei,ej,dJ]at this;lia
    .subst a;rw[ei]at ej;lia
    .haveI:=pw j i hj hi a;rw[ei,ej,dJ]at this;lia
  refine bL (gT (dC (fG M (O (l1 _ rfl)) rfl bb rfl) λY=>dC (oH RY rfl) λY=>hO)) (λz=>?_) λz=>c7 ?_
  .have ok:=(ow.mp z).1;have nt:¬∃x∈ys,-x∈ys:=λh=>by
    have:=(ow.mp (ow.mp z).2).1;replace this:=(@decide_eq_true _ (Classical.propDecidable _) h)▸this;exact nf this
   haveI S2:=(S1.1 ok).b_ g;haveI dn:=λx hx hn=>nt ⟨x,(E.1 x).mpr hx,(E.1 _).mpr hn⟩;haveI ey:iz P ys:=λw hw=>by
    exact az (gx w hw) λx ZR=>aU ZR λhx e=>⟨x,(E.1 x).mpr hx,e⟩
   have IU:∀s,t1.cs s=t.cs s:=λs=>by unfold T.cs;exact es▸rfl
   refine gF (Vv M (O (l1 _ rfl)) bb (iP M (O (l1 _ rfl)) bb (aI (O rfl) (aI (O rfl) (aI gU aX))) (QO M S2.1.1 S2.1.2.1 S2.1.2.2 S2.1.2.3 λa af x' M=>?_)));haveI sk:=S2.1.sc.ou (d:=false) (x:=x') (em.symm▸sm) E.nd (λy hy=>⟨(yn y).mpr (lx y ((E.1 y).mp hy)),λh=>nt ⟨y,hy,h⟩⟩) ly (λf=>by
    exact gn λkG=>az (h1 (ep▸f) dn) λs0 acb=>eI acb λe1 e2 e3 e4=>kG<|(cR s0 (cg e1 (by unfold Sn at e2⊢;exact B es<|e2) (by rw[IU];exact e3) λx=>by rw[IU];exact(e4 x).trans (E.1 x).symm))) ey
   have FY:=λf c=>by
    show aW t1.st t1.kW s c=none;unfold aW;split
    .exact h0 (ep▸f)
    .exact S1.5 f c
   refine ahh (I:=lI L t1.m a) (t:=t1.j8 ys s false x') M (S2.ou sk) S2.1.6.ou z1 (λA lU t3 o3 M G pl=>?_) λA lU t3 o3 M G pl hc hf=>?_
   .have r:=pl.j8;refine bL (di (O rfl) eG rfl) nf λz=>c_ (c7 ?_);haveI tB:=r.3.trans ok;haveI no:t3.ok=false->False:=λf=>by replace f:=tB▸f;injection f
    haveI adA:=r.7;refine bZ A lU t3 _ (λc=>(o3 c).trans (o c)) M rfl ⟨⟨λY=>adA.symm▸G,λf=>(no f).elim,λf=>(no f).elim,λf=>(no f).elim,λf c=>B pl.5 (FY (r.4.symm.trans f) c)⟩,r.1.trans en,by refine r.2▸?_;refine aT em ?_;refine dR _,r.4.trans ep,by refine r.5▸r.6▸es▸er▸?_;lia,r.8.trans z1,λY=>aS (eo.symm.trans ok) (By.trans r.9) (.inr ?_)⟩
    refine aU (pl.13 t1.m ⟨fE _,by show(t1.m:Int)< ((t1.m+1));lia⟩) λc1 c2=>?_
    exact⟨_,c1,λx=>(c2 x).trans (by show x∈aW t1.cl t1.m ys t1.m↔_;rw[cU];exact E.1 x)⟩
   .have r:=pl.j8;have N0:(t1.m:Int)≠-1:=by lia
    have Ph:=λc=>(o3 c).trans (o c);have PQ:=r.5.trans es;have yA:=r.6.trans er;have PJ:=r.4.trans ep;refine bL (b:=true) (di (O rfl) eG (by refine(dp N0)▸?_;rfl)) (λY=>?_) λz=>absurd z (by decide)
    refine eX M (O ((rfl).trans (aP (λp=>some (V.ref p)) (Ph .aO).symm))) bb (aI (O rfl) aX) (JQ M G.1 G.2 G.3 G.5 G.4 G.10 (λf=>by refine PQ▸?_;refine B yA ?_;exact sl (PJ▸f)) hc hf λA N x M F=>d9 (c_ (c7 ?_)))
    haveI v:=F.1.1.f;have QS:N.aK=t3.aK:=by refine gz F.1.1 λY Y Y Y e=>?_;rw[e];rfl
    haveI Sf:=(G.uq F.1.1 F.2 (F.1.3 P Rm G.11)).iZ (cf:=N.cf) (dc:=N.dc) (es:=x) (fa:=N.fa) (fd:=N.fd) (ok:=false);haveI aiQ:N.pf=false->∀c,N.st c=none:=λf c=>by
     rw[v.2.2.2.2.2.2.2.2.1,pl.5];exact FY (r.4.symm.trans (v.2.2.2.2.2.2.2.2.2.symm.trans f)) c
    refine bZ A lU _ _ Ph M rfl ⟨⟨λf=>nf f,λY=>aS Sf (QS.trans (r.8.trans z1)) (F.6 P Rm G.11),λY f=>?_,λY f=>F.5 (v.2.2.2.2.2.2.2.2.2.symm.trans f),aiQ⟩,v.1.trans (r.1.trans en),?_,v.2.2.2.2.2.2.2.2.2.trans PJ,?_,QS.trans (r.8.trans z1),λf=>nf f⟩
    .haveI f3:=v.2.2.2.2.2.2.2.2.2.symm.trans f;show x=none;rw[F.4 f3,pl.5];exact FY (r.4.symm.trans f3) _
    .show N.m<=t.m+1;rw[v.2.2.2.2.2.2.2.1,r.2,em];exact dR _
    .haveI:=F.3;rw[PQ,yA]at this;exact this
  .refine bZ A L t1 _ o M rfl ⟨S1.b_ g,en,by refine em▸?_;exact Nat.le_succ _,ep,by refine es▸er▸?_;lia,z1,λf=>aS (eo.symm.trans f) By (.inl ?_)⟩
   haveI:=(E.1 ·|>.mp)
   obtain⟨y,y1,y2⟩:∃x∈ys,-x∈ys:=jX λh=>by replace z:=f▸z;replace z:=(@decide_eq_false _ (Classical.propDecidable _) h)▸z;exact nt z
   exact⟨y,this y y1,this _ y2⟩
 refine eX M (O rfl) bb (aI a8 aX) (qZ M S.sb.1 S.sb.3 S.sb.7 (λz=>?_) λs' A L f g' u hl pl hs nJ M C=>?_)
 .exact main t I A (λY=>rfl) M S (List.length_eq_zero_iff.mp (Nat.le_zero.mp z)) rfl rfl rfl rfl rfl (λY h=>⟨h,λY=>Iff.rfl⟩) rfl
 .exact main _ L A (λc=>nJ _ (bT.ne rfl) λh=>bT.ne rfl h) M (S.dh hs C) rfl rfl rfl rfl rfl rfl (λY h=>⟨h,λY=>Iff.rfl⟩) rfl
noncomputable def jA(cs:List (List Int)):List V:=cs.map λc=>.aE (Zl c)
def AP(C:Cx)(p:Nat)(r:List St)(l:aH)(Q:Fl->aH->H->Prop)(w:V)(A:H):Prop:=∃p' E,V.ref p=.ref p'/\A p'=some (.list E)/\E.length<bf/\Ss C r l (A.set p' (.list (E++[w]))) Q
theorem aiB(M:Mem I t Z A)(a:Ev C l A o (.ref p))(b:Z p=some (.list E))(h:aB C e l A λw A=>AP C p r l Q w A):Ss C (.expr (.c8 o e)::r) l A Q:=a _ ⟨⟨_,rfl,E,M.3 _ _ b⟩,h⟩
theorem R4(M:Mem I t Z A)(hp:Z p=some (.list E))(b:E.length<bf)(k:∀a,Mem I t (Z.set p (.list (E++[w]))) a->Ss C r l a Q):AP C p r l Q w A:=
 (cE p E (cg rfl (M.3 _ _ hp) b (k _ (M.dy (.inr ⟨_,hp⟩)))))
def RE(W:(Int->Prop)->Prop)(t:T)(I:bT->Nat)(Z:H)(a:Nat)(i:Int)(l:aH)(A:H)(cs:List (List Int)):Prop:=Q7
 (0<=i)
 (i<=t.m)
 (Mem I t (Z.set a (.list (jA cs))) A)
 (cs.length<=i)
 (∀c∈cs,iz W c/\∀x∈c,a9 t x)
 (l .X=some (me I))
 (l .ft=some (.ref a))
theorem ae_(M:Mem I t Z A)(S:Sb W t)(q:∀e a cs,Z a=none->Mem I t (Z.set a (.list (jA cs))) e->cs.length<=t.m->(∀c∈cs,iz W c/\∀x∈c,a9 t x)->Q (.ref a) e):aA (k+3) .HC [me I] A Q:=by
 refine⟨_,rfl,vJ M (sS aX) λa A na M=>?_⟩;have mb:=S.1.bm;haveI o:Ev (aA (k+2)) ((aH.set (λY=>none) .X (me I)).set .ft (.ref a)) A (.b1 .len (.aC (.var .X) .fS)) (.int t.m):=by
  haveI:=oG (C:=aA (k+2)) (fG M (O rfl) rfl bb rfl:Ev _ ((aH.set (λY=>none) .X (me I)).set .ft (.ref a)) _ (.aC (.var .X) .fS) (.ref (I .cl))) (M.1 .cl _ rfl) (B fJ (c9 mb));rwa[fJ]at this
 refine rZ (λi l A=>∃cs,RE W t I Z a i l A cs) o (mW (c9 mb)) ⟨[],g8 _,fE _,M,g8 _,λc h=>absurd h gh,rfl,rfl⟩ ?_ ?_
 .intro i l A hi d P g Y Y;refine az d λcs ae=>?_;have b:Cn t i:=⟨ae.1,hi⟩;have X:=ae.6;have ft:=ae.7;have M:=ae.3;haveI p:Ev (aA (k+2)) (l.set .bO (.int i)) A (.aQ (.aC (.var .X) .uv) (.var .bO)) (.bool (t.dr i)):=w3 (f:=λi=>.bool (t.dr i)) M (fG M (O X) rfl bb rfl) (O rfl) rfl (B S.2.2 (c9 mb)) b.1 (B S.2.2 b.2);haveI j:Ev (aA (k+2)) (l.set .bO (.int i)) A (.aQ (.aC (.var .X) .fS) (.var .bO)) (.ref (I (.c i))):=mc M S.1 (fG M (O X) rfl bb rfl) (O rfl) b;refine bL (gT (dC p λY=>dC (qb j λh=>nomatch h) λY=>hO)) (λz=>?_) λz=>c_ (g _ _ ?_).1
  .haveI lc:=S.1.5 i b.1 b.2;refine aiB M (O ft) H.bC (kL (aI j aX) (ug M (.inr ⟨.c i,rfl,js b⟩) (df lc (by decide)) λA ys M n=>R4 M H.bC (by unfold jA;rw[b9];haveI:=ae.4;exact df (by lia) mb) λA M=>c_ (g _ _ ?_).1))
   haveI M2:Mem I t (Z.set a (.list (jA (cs++[ys])))) A:=by
    refine M.fD λy x h=>?_;rcases cY (y=a)with q|q
    .simp only[q,H.bC]at h⊢;unfold jA at h⊢;rw[iJ]at h;exact h
    .rw[H.a6 q]at h;rw[H.a6 q,H.a6 q];exact h
   refine⟨cs++[ys],by haveI:=ae.1;lia,Int.add_one_le_of_lt hi,M2,by refine B cx ?_;haveI:=ae.4;simp only[lQ,k7];lia,λc h=>?_,X,ft⟩
   rcases dT.mp h with h|h
   .exact ae.5 c h
   .exact B (cL.mp h) (⟨λw hw=>(S.11.1 i b w hw).imp λx r=>aU r λs u=>⟨(n.1 x).mpr s,u⟩,λx v=>(S.4.2 i x b ((n.1 x).mp v)).1⟩)
  .exact⟨cs,by have:=ae.1;lia,Int.add_one_le_of_lt hi,M,by haveI:=ae.4;lia,ae.5,X,ft⟩
 .intro i l A hi E;exact az E λcs ae=>cI (O ae.7) (q A a cs na ae.3 (by haveI:=ae.4;haveI:=ae.2;lia) ae.5)
theorem Wa(M:Mem I t Z A)(q:Q (.aE (Zl t.fd)) A):aA (k+1) .Hy [me I] A Q:=⟨_,rfl,cI (fG M (O rfl) rfl bb rfl) q⟩
theorem V_(M:Mem I t Z A)(q:Q (oi t.fa) A):aA (k+1) .Hz [me I] A Q:=⟨_,rfl,cI (fG M (O rfl) rfl bb rfl) q⟩
theorem ahe(q:Q (.bool false) A):aA (k+1) .HD [me I] A Q:=⟨_,rfl,cI gU q⟩
theorem R9(q:Q (.str "sat") A):aA (k+1) .Hx [me I] A Q:=⟨_,rfl,cI n_ q⟩
def pd(t:T)(a:Int)(done new:List Int)(b:Int->Bool):Prop:=Q4
 (∀w,b w=true↔t.sn w=true\/w∈new)
 (∀w,w∈new↔t.sn w=false/\w≠a/\∃x∈done,U x=w)
 (new.Nodup)
 (new.length<=done.length)
theorem pd.skip(m:pd t i done new j)(h:U x=i\/j (U x)=true):pd t i (done++[x]) new j:=
 ⟨m.1,λw=>⟨λg=>by
   exact gn λk=>br ((m.2 w).mp g) λa b c=>az c λy d=>aU d λf e=>k<|⟨a,b,y,lO _ f,e⟩,λl=>br l λa b n=>az n λy o=>aU o λf e=>by
   rcases dT.mp f with q|q
   .exact(m.2 w).mpr ⟨a,b,y,q,e⟩
   .rw[cL.mp q]at e;refine Or.elim h (λh=>?_) (λh=>?_)
    .exact absurd (e.symm.trans h) b
    .rw[e]at h;exact((m.1 w).mp h).resolve_left (by refine B a ?_;decide)⟩,m.3,B cx (Nat.le_succ_of_le m.4)⟩
theorem pd.add{t:T}{c x:Int}{done new:List Int}{d:Int->Bool}(m:pd t c done new d)(h:U x≠c)(f:d (U x)=false):pd t c (done++[x]) (new++[U x]) (aW d (U x) true):=by
 have nn:¬(t.sn (U x)=true\/U x∈new):=λq=>by replace f:=((m.1 _).mpr q)▸f;exact nt f
 haveI i:=Bool.eq_false_iff.mpr λq=>nn (.inl q);refine⟨λw=>?_,λw=>⟨λg=>?_,λ⟨a,b,y,j,e⟩=>?_⟩,jB.mpr ⟨m.3,jb.mpr ⟨λq=>gh q,.nil⟩,λa ha b n q=>?_⟩,by simp only[cx,cx];exact Nat.succ_le_succ m.4⟩
 .rw[dT,cL];refine dx (w=U x) (λq=>?_) (λq=>?_)
  .exact aT q<|B cU<|⟨λY=>.inr (.inr rfl),λY=>rfl⟩
  .rw[b7 q,m.1];exact or_congr Iff.rfl ⟨.inl,λz=>z.resolve_right q⟩
 .rcases dT.mp g with g|g
  .exact gn λo=>br ((m.2 w).mp g) λa b k=>az k λy l=>aU l λj e=>o<|⟨a,b,y,lO _ j,e⟩
  .exact B (cL.mp g) (⟨i,h,x,iW _ (bE ..),rfl⟩)
 .rcases dT.mp j with q|q
  .exact lO _ ((m.2 w).mpr ⟨a,b,y,q,e⟩)
  .rw[cL.mp q]at e;exact aT e<|iW _ (bE ..)
 .rw[cL.mp n]at q;exact nn (.inr (aT q ha))
noncomputable def T.r0(t:T)(v:Int):Bool:=decide (t.ae v=0)
def RF(t:T)(I:bT->Nat)(Z:H)(a b:Nat)(N c:Int)(mk rt:List Int)(l:aH)(A:H)(done new:List Int)(d:Int->Bool):Prop:=Q6
 (Mem I (t.jV d) (H.eM Z a b (mk++new) (rt++new.filter t.r0)) A)
 (pd t c done new d)
 (l .X=some (me I))
 (l .qG=some (.int c))
 (l .rO=some (.ref a))
 (l .bU=some (.ref b))
theorem OS(xN:a≠b)(M:Mem I t (H.eM Z a b mk rt) A)(bd:Bd t)(K:dY t)(g:Cn t N)(lm:mk.length<=20)(lo:rt.length<=20)
 (q:∀af d new,Mem I (t.jV d) (H.eM Z a b (mk++new) (rt++new.filter t.r0)) af->pd t m (t.cl N) new d->Q .none af):
 aA (k+1) .CV [me I,.int N,.int m,.ref a,.ref b] A Q:=by
 refine⟨_,rfl,kR (mc M bd (bY M rfl rfl rfl) (O rfl) g _ ?_)⟩;haveI M0:Mem I (t.jV t.sn) (H.eM Z a b (mk++[]) (rt++([]).filter t.r0)) A:=by
  simp only[List.filter_nil,fQ,fQ];clear bd K g q;cases t;exact M
 refine nF (λE l A=>∃done new d,t.cl N=done++E/\RF t I Z a b N m mk rt l A done new d) (M.1 _ _ (js g)) (bd.nX g.1 g.2) ⟨[],[],t.sn,rfl,M0,⟨λw=>⟨.inl,λh=>h.elim id λh=>nomatch h⟩,λw=>⟨λh=>(nomatch h),λXJ=>br XJ λY Y XK=>az XK λy XM=>aU XM λh Y=>nomatch h⟩,.nil,dR _⟩,rfl,rfl,rfl,rfl⟩ ?_ ?_ ?_
 .intro E l A n;exact d7 n λdone new d o=>aU o λe ak=>ak.1.1 (.c N) _ (js g)
 .intro x E l A p P s Y Y;refine d7 p λdone new d u=>aU u λe i=>?_;haveI M:=i.1;haveI r:=i.2;haveI v:=i.3;haveI C:=i.4;haveI G:=i.5;haveI J:=i.6;haveI t5:=bd.1;haveI xc:x∈t.cl N:=B e (iW _ (bE ..));have lx:=(K.2 N x g xc).1;have ix:=lx.fu;have L:t.cl N=(done++[x])++E:=by simp only[e,iX];rfl
  have ln:new.length<=5:=by
   haveI:=bd.5 N g.1 g.2;rw[e,cx]at this;exact aV r.4 (aV (jK _ _) this)
  haveI h1:Ev (aA k) ((l.set .lit (.int x)).set .var (.int (U x))) A (.eq true (.var .var) (.var .qG)) (.bool (decide (U x=m) !=true)):=di (O rfl) (O ‹_›) rfl;haveI h2:Ev (aA k) ((l.set .lit (.int x)).set .var (.int (U x))) A (.aQ (.aC (.var .X) .iF) (.var .var)) (.bool (d (U x))):=eF M (bY M ‹_› rfl rfl) (O rfl) rfl ‹_› rfl ‹_›;refine dG (fO (O rfl) rfl) (bL (gT (dC h1 λY=>dC (oH h2 rfl) λY=>hO)) (λz=>?_) λz=>c_ (s _ _ ?_).1)
  .have z1:U x≠m:=λw=>by
    have:=(ow.mp z).1;replace this:=(cO w)▸this;exact nf this
   have z2:d (U x)=false:=by
    have:=(ow.mp (ow.mp z).2).1;cases h:d (U x)with|false=>rfl|true=>replace this:=h▸this;exact nf this
   haveI r':=r.add z1 z2;have fl:(new++[U x]).filter t.r0=new.filter t.r0++(if t.r0 (U x)then[U x]else[]):=by simp only[List.filter_append,List.filter_cons,List.filter_nil]
   haveI Wr:(new.filter t.r0).length<=5:=aV (lP ..) ln;refine kU M gU (bY M ‹_› rfl rfl) (O rfl) rfl t5 ix wI λA M=>m4 M (O ‹_›) (O rfl:Ev _ _ _ _ (.int (U x))) (H.Ci xN) (B cj<|B cx<|df (Nat.add_le_add lm ln) (iV (bt rfl))) λA M=>?_;rw[j5,H.Rf xN,iX]at M;haveI el:Ev (aA k) ((l.set .lit (.int x)).set .var (.int (U x))) A (.eq false (.aQ (.aC (.var .X) .iR) (.var .var)) (.int 0)) (.bool (t.r0 (U x))):=di (eF (f:=λj=>.int (t.ae j)) (j:=U x) M (bY M ‹_› rfl rfl) (O rfl) rfl t5 rfl ix) a8 (by unfold T.r0;cases decide (t.ae (U x)=0)<;>rfl)
   refine bL el (λz=>?_) λz=>c_ (c_ (s _ _ ?_).1)
   .refine m4 M (O ‹_›) (O rfl) H.Cj (by refine B cj ?_;refine B cx ?_;exact df (Nat.add_le_add lo Wr) (iV (bt rfl))) λA M=>c_ (c_ (s _ _ ?_).1)
    simp only[j5,H.Rg,iX]at M;rw[z,bA rfl]at fl;exact⟨done++[x],_,_,L,B fl M,r',v,C,G,J⟩
   .rw[z,bx gH,fQ]at fl;exact⟨done++[x],_,_,L,fl.symm▸M,r',v,C,G,J⟩
  .refine⟨done++[x],new,d,L,M,r.skip ?_,v,C,G,J⟩;rcases cY (U x=m)with w|w
   .exact .inl w
   .cases h:d (U x)with
    |true=>exact .inr rfl
    |false=>replace z:=h▸z;replace z:=(dp w)▸z;exact nt z
 .intro l A R;refine gn λkG=>d7 R λdone new d W=>aU W λe MV=>?_;haveI M:=MV.1;haveI r:=MV.2;refine kG ?_;rw[fQ]at e;rw[<-e]at r;exact q A d new M r
noncomputable def T.f_(t:T)(v:Int):T:={t with aa:=aW t.aa v (-t.aa v)}
theorem rB{t:T}(h:U x≠v):(t.f_ v).val x=t.val x:=by
 simp only[lM,lM];haveI:(t.f_ v).aa (U x)=t.aa (U x):=b7 h;exact B this rfl
theorem EE{t:T}(h:U x=v):(t.f_ v).val x= -t.val x:=by
 subst h;simp only[lM,lM];haveI:(t.f_ (U x)).aa (U x)= -t.aa (U x):=cU;refine B this ?_;split<;>lia
theorem Tv.f_(b:Tv t):Tv (t.f_ v):=⟨λu hu=>by
 show aW t.aa v (-t.aa v) u=0\/_;rcases cY (u=v)with q|q
 .rw[q,cU];haveI:=b.a v (aT q hu);show-t.aa v=0\/aW t.aa v (-t.aa v) v=1\/aW t.aa v (-t.aa v) v= -1;refine B cU ?_;exact this.elim (λe=>.inl (by rw[e];rfl)) λh=>h.elim (λe=>.inr (.inr (by rw[e]))) λe=>.inr (.inl (by rw[e];rfl))
 .rw[b7 q];show _\/aW t.aa v (-t.aa v) u=1\/aW t.aa v (-t.aa v) u= -1;exact B (b7 q) (b.a u hu)⟩
theorem dY.f_(K:dY t):dY (t.f_ v):=⟨K.1,K.2⟩
theorem ek.f_(P:ek t)(h:t.ae v≠0):ek (t.f_ v):=
 ⟨P.1,P.2,P.3,λu s hu e=>by
   refine gn λd=>?_;refine az (P.4 u s hu e) λl a=>eY a λf b g c i=>?_;exact d<|(cR l (e_ f b ((rB λq=>h (by refine q▸B b ?_;exact c)).trans g) c i)),P.5,P.6,P.7,P.8⟩
theorem adq(c:cB t)(K:dY t)(P:t.pf=true->ek t)(hL:t.ae (U lit)≠0)(a:Cn t N)(d:a9 t lit)(lf:t.val lit= -1)(h: -lit∈t.cl N)(i:∀y∈t.cl N,y≠-lit->t.val y= -1):Ac (t.f_ (U lit)) N [] λw=>∃y∈t.cl N,U y=w:=
 Ac.mD (Tv.f_ c.tv) K.f_ (λf=>(P f).f_ hL) a λx b=>by
  rcases cY (x= -lit)with e|e
  .simp only[e,EE dJ,kX d.1,lf];rfl
  .rw[rB λq=>?_]
   .exact i x b e
   .rcases kJ q with g|g
    .exact(K.2 N x a b).2 (B g h)
    .exact e g
def Ff(t:T)(lit N:Int)(a:Int->Bool)(mk fd:List Int)(pr:List (Int×Option Int))(i:Int):Prop:=Q8
 (Ac (t.f_ (U lit)) N pr λw=>a w=true/\(w=U lit\/t.S w<=i\/t.R w= -1))
 (a (U lit)=true)
 (∀w,a w=true->w=U lit\/(1<=w/\w<=t.n/\t.aa w≠0/\t.S w<t.S (U lit)))
 (∀w,w∈mk↔a w=true)
 (mk.Nodup)
 (∀x,x∈fd↔x=lit\/∃j:Nat,i<j/\j<t.S (U lit)/\t.tr[j]? =some x/\a (U x)=true/\t.R (U x)= -1)
 ((fd.map U).Nodup)
 (pr.length+i+1<=t.S (U lit))
theorem adp{t:T}:(t.f_ v).aa w≠0↔t.aa w≠0:=by
 show aW t.aa v (-t.aa v) w≠0↔_;rcases cY (w=v)with q|q
 .refine B q<|B cU ?_;lia
 .rw[b7 q]
theorem Ff.sb{i:Nat}(F:Ff t lit N j mk fd pr i)(f:cB t)(k:t.tr[i]? =some x)(h:j w=true)(hi:(i:Int)<t.S (U lit))(e:t.S w=i):w=U x:=by
 refine br (f.3 i x k) λg l sx=>?_;rcases F.3 w h with q|⟨a,b,c,d⟩
 .lia
 .exact f.inj ⟨by lia,b⟩ g.fu c (ni f.tv g (by refine B l ?_;decide)) (e.trans sx.symm)
theorem Ff.dn{i:Nat}(F:Ff t lit N a mk fd pr i)(b:cB t)(c:t.tr[i]? =some x)(hi:(i:Int)<t.S (U lit))(h:a (U x)=false\/t.R (U x)= -1):Ac (t.f_ (U lit)) N pr λw=>a w=true/\(w=U lit\/t.S w<=(i:Int)-1\/t.R w= -1):=by
 haveI:(λw=>a w=true/\(w=U lit\/t.S w<=i-1\/t.R w= -1))=λw=>a w=true/\(w=U lit\/t.S w<=i\/t.R w= -1):=funext λw=>propext (and_congr_right λhw=>by
  refine or_congr Iff.rfl ⟨λq=>q.imp (λz=>by lia) id,λq=>?_⟩
  refine dx (t.S w=i) (λe=>?_) (λe=>?_)
  .haveI:=F.sb b c hw hi e;rw[<-this]at h;exact .inr (h.resolve_left (by refine B hw ?_;decide))
  .exact q.imp (λz=>by lia) id)
 exact B this F.1
theorem Ff.skip{i:Nat}(F:Ff t lit N f mk fd pr i)(k:cB t)(g:t.tr[i]? =some x)(hi:(i:Int)<t.S (U lit))(h:f (U x)=false):Ff t lit N f mk fd pr ((i:Int)-1):=
 ⟨F.dn k g hi (.inl h),F.2,F.3,F.4,F.5,λy=>(F.6 y).trans (or_congr Iff.rfl ⟨λ⟨j,a,b⟩=>⟨j,by lia,b⟩,λl=>az l λj m=>eY m λa b c d e=>(cR j (e_ (by
   haveI:j≠i:=λq=>by replace c:=q▸c;replace c:=g▸c;injection c with c;haveI c:=c.symm;subst c;replace d:=h▸d;exact nf d
   lia) b c d e))⟩),F.7,by haveI:=F.8;lia⟩
theorem Ff.Aa{i:Nat}(F:Ff t lit N k mk fd pr i)(g:cB t)(f:t.tr[i]? =some x)(hi:(i:Int)<t.S (U lit))(h:k (U x)=true)(hr:t.R (U x)= -1):Ff t lit N k mk (fd++[x]) pr ((i:Int)-1):=by
 refine⟨F.dn g f hi (.inr hr),F.2,F.3,F.4,F.5,λy=>?_,?_,by haveI:=F.8;lia⟩
 .rw[dT,F.6,cL];constructor
  .rintro((a|⟨j,a,b⟩)|a)
   .exact .inl a
   .exact .inr ⟨j,by lia,b⟩
   .exact B a (.inr (cR i (e_ (by lia) hi f h hr)))
  .rintro(a|⟨j,a,b,c,d⟩)
   .exact .inl (.inl a)
   .rcases cY (j=i)with q|q
    .replace c:=q▸c;replace c:=f▸c;injection c with c;subst c;exact .inr rfl
    .exact .inl (.inr (cR j (cg (by lia) b c d)))
 .refine B iJ<|jB.mpr ⟨F.7,jb.mpr ⟨λq=>gh q,.nil⟩,λa ha b l e=>?_⟩;obtain⟨y,m,rfl⟩:=cW.mp ha;replace e:=(cL.mp l)▸e;haveI sx:=(g.3 i x f).2.2;replace sx:=e.symm▸sx;rcases(F.6 y).mp m with q|⟨j,a,b,c,_⟩
  .rw[q]at sx;lia
  .have:=(g.3 j y c).2.2;lia
theorem Ff.next{i:Nat}(F:Ff t lit N k mk fd pr i)(o:cB t)(K:dY t)(P:t.pf=true->ek t)(hL:t.ae (U lit)≠0)(l:t.n<=5)(ll:a9 t lit)(r:t.tr[i]? =some x)(hi:(i:Int)<t.S (U lit))(h:k (U x)=true)(hr:t.R (U x)≠-1)
 (G:Cn t M) (xc:x∈t.cl M) (s:∀y∈t.cl M,y≠x->t.val y= -1/\t.S (U y)<i) (m:pd (t.jV k) (U x) (t.cl M) new s2):Ff t lit N s2 (mk++new) fd (pr++[(U x,t.st M)]) ((i:Int)-1):=by
 refine br (o.3 i x r) λlx vx sx=>?_;have up:∀w,s2 w=true↔k w=true\/w∈new:=m.1;have p:∀w,w∈new↔k w=false/\w≠U x/\∃y∈t.cl M,U y=w:=m.2;have I:U x≠U lit:=λe=>by rw[e]at sx;lia
 have lo:∀y∈t.cl M,U y≠U x->t.val y= -1/\t.S (U y)<i/\a9 t y:=λy g l=>⟨(s y g λe=>l (e▸rfl)).1,(s y g λe=>l (e▸rfl)).2,(K.2 M y G g).1⟩;have J:=λw hw=>by
  refine Or.elim ((up w).mp hw) (λq=>?_) (λq=>?_)
  .exact F.3 w q
  .refine gn λkG=>br ((p w).mp q) λY b L=>az L λy Q=>aU Q λg u=>?_;clear L Q;subst u;exact br (lo y g b) λc d e=>kG<|.inr (cg e.U.1 e.U.2 (ni o.tv e (by rw[c];decide)) (by lia))
 haveI fT:kC (t.f_ (U lit)) λw=>s2 w=true/\(w=U lit\/t.S w<=i-1\/t.R w= -1):=λw hw=>by
  refine Or.elim (J w hw.1) (λq=>?_) (λv=>eI v λa b c Y=>?_)
  .exact B q (F.1.1 _ ⟨F.2,.inl rfl⟩)
  .exact aS a b (adp.mpr c)
 haveI hp:∀w,(s2 w=true/\(w=U lit\/t.S w<=i-1\/t.R w= -1))↔w≠U x/\((k w=true/\(w=U lit\/t.S w<=i\/t.R w= -1))\/∃y∈t.cl M,U y=w):=λw=>by
  constructor
  .intro W;refine aU W λa b=>?_;try clear W
   rcases(up w).mp a with q|q
   .refine⟨λe=>?_,.inl ⟨q,b.imp id (.imp (λz=>by lia) id)⟩⟩
    subst e;rcases b with b|b|b
    .exact I b
    .lia
    .exact hr b
   .haveI X:=(p w).mp q;haveI c:=X.2.1;haveI d:=X.2.2;exact⟨c,.inr d⟩
  .rintro⟨a,⟨b,c⟩|⟨y,Z,rfl⟩⟩
   .refine⟨(up w).mpr (.inl b),c.imp id (.imp (λz=>?_) id)⟩;haveI:t.S w≠i:=λe=>a (F.sb o r b hi e);lia
   .refine br (lo y Z a) λY d Y=>⟨(up _).mpr ?_,.inr (.inl (by lia))⟩
    cases e:k (U y)with
    |true=>exact .inl rfl
    |false=>exact .inr ((p _).mpr ⟨e,a,y,Z,rfl⟩)
 haveI G_:=(rB I).trans vx;haveI A:∀y∈t.cl M,y≠x->(t.f_ (U lit)).val y= -1:=λy g l=>by
  exact aU (s y g l) λa b=>(rB λe=>by rw[e]at b;lia).trans a
 refine⟨F.1.next (Tv.f_ o.tv) K.f_ (λf=>(P f).f_ hL) fT l G lx G_ xc A hp ⟨h,.inr (.inl (Int.le_of_eq sx))⟩,(up _).mpr (.inl F.2),J,λw=>by rw[dT,F.4,up],jB.mpr (aS F.5 m.3 λa ha b hb e=>?_),λy=>(F.6 y).trans (or_congr Iff.rfl ⟨λXp=>az Xp λj Xq=>eY Xq λa b c d e=>(cR j (e_ (by lia) b c ((up _).mpr (.inl d)) e)),λ⟨j,a,b,c,d,e⟩=>?_⟩),F.7,by refine cx▸?_;haveI:=F.8;simp only[lQ,k7];lia⟩
 .haveI:=((p b).mp hb).1;replace this:=e.symm▸this;replace this:=((F.4 a).mp ha)▸this;exact nt this
 .have hj:j≠i:=λq=>by replace c:=q▸c;replace c:=r▸c;injection c with c;subst c;exact hr e
  haveI sy:=(o.3 j y c).2.2;refine(cR j (e_ (by lia) b c (((up _).mp d).resolve_right λq=>?_) e))
  refine br ((p _).mp q) λY f C=>az C λz E=>aU E λz1 z2=>?_;haveI:=(lo z z1 (B z2 f)).2.1;rw[z2]at this;lia
theorem Ff.mD{t:T}{lit N:Int}{s2:Int->Bool}{new:List Int}(l:cB t)(K:dY t)(P:t.pf=true->ek t)(hs:∀w,t.sn w=false)(hL:t.ae (U lit)≠0)(o:Cn t N)(s:a9 t lit)(lf:t.val lit= -1)(g: -lit∈t.cl N)(p:∀y∈t.cl N,y≠-lit->t.val y= -1/\t.S (U y)<t.S (U lit))(m:pd (t.jV (aW t.sn (U lit) true)) (U lit) (t.cl N) new s2):Ff t lit N s2 (U lit::new) [lit] [] (t.S (U lit)-1):=by
 haveI ac:=adq l K P hL o s lf g λy f h=>(p y f h).1;have i:=λw=>(m.2 w).trans ⟨λh=>h.2,λh=>⟨(b7 h.1).trans (hs w),h⟩⟩;have up:∀w,s2 w=true↔w=U lit\/w∈new:=λw=>(m.1 w).trans (or_congr (by
  refine dx (w=U lit) (λq=>?_) (λq=>?_)
  .exact B q<|B cU<|⟨λY=>rfl,λY=>rfl⟩
  .rw[b7 q,hs];exact⟨λh=>nf h,λh=>absurd h q⟩:aW t.sn (U lit) true w=true↔_) Iff.rfl)
 have lo:∀y∈t.cl N,U y≠U lit->t.val y= -1/\t.S (U y)<t.S (U lit)/\a9 t y:=λy f g=>by
  haveI:=p y f λe=>g (B e<|B dJ rfl);exact aS this.1 this.2 ((K.2 N y o f).1)
 haveI u:∀w,s2 w=true->w=U lit\/(1<=w/\w<=t.n/\t.aa w≠0/\t.S w<t.S (U lit)):=λw hw=>((up w).mp hw).imp id λq=>by
  obtain⟨b,y,f,rfl⟩:=(i w).mp q;haveI k:=lo y f b;haveI c:=k.1;haveI d:=k.2.1;haveI e:=k.2.2;exact(cg e.U.1 e.U.2 (ni l.tv e (by rw[c];decide)) d)
 haveI:(λw=>s2 w=true/\(w=U lit\/t.S w<=t.S (U lit)-1\/t.R w= -1))=λw=>∃y∈t.cl N,U y=w:=funext λw=>propext ⟨λv=>aU v λa Y=>by
  rcases(up w).mp a with q|q
  .exact⟨-lit,g,dJ.trans q.symm⟩
  .exact((i w).mp q).2,λx=>az x λy z=>aU z λr e=>by
  rcases cY (w=U lit)with q|q
  .exact⟨(up w).mpr (.inl q),.inl q⟩
  .exact⟨(up w).mpr (.inr ((i w).mpr ⟨q,y,r,e⟩)),.inr (.inl (by haveI:=(lo y r (B e q)).2.1;rw[e]at this;lia))⟩⟩
 refine⟨B this ac,(up _).mpr (.inl rfl),u,λw=>by rw[dW,up],jb.mpr ⟨λq=>((i _).mp q).1 rfl,m.3⟩,λy=>?_,jb.mpr ⟨λq=>gh q,.nil⟩,by show 0+_+1<=_;lia⟩
 exact cL.trans<|⟨.inl,λh=>h.resolve_right λA=>az A λj C=>br C λa b Y=>by lia⟩
theorem Gr.f_(g:Gr t J):Gr (t.f_ v) (J.f_ v):=by
 refine gn λa=>?_;obtain⟨⟨us,rt,ps,pe,rfl⟩,s,en⟩:=g;exact a<|⟨fh us rt ps pe rfl,s,λW w aB=>⟨(en W w ⟨aB.1,aB.2⟩).1,(en W w ⟨aB.1,aB.2⟩).2⟩⟩
theorem Ff.bZ{lit N s0:Int}{E:Int->Bool}{mk fd ys:List Int}{pr:List (Int×Option Int)}(F:Ff t lit N E mk fd pr (s0-1))(o:cB t)(R:fY t)(K:dY t)(ll:a9 t lit)(lf:t.val lit= -1)(hs:t.aK[0]? =some s0)(hL:t.ae (U lit)≠0)(r:t.n<=5)(g:Gr t J)(h0:t.pf=false->us=[])(h1:t.pf=true->(us.map Prod.fst).Perm (mk.filter t.r0)/\∀p∈us,Ru J p)(sd:Sd (fd.map λx=>-x) ys):
 (∀x∈fd,a9 t x/\-x∉fd)/\Td ys/\(J.pf=true->∃s0 ps,J.st N=some s0/\Sn J s0/\Td (J.cs s0)/\pr++ku us=ku ps/\Rn J (J.cs s0) ps ys)/\∀W,Wo W->gO W J->iz W ys:=by
 have e1:=g.1.f.1;have G:=g.1.f.2.2.2.1;have X:=g.1.f.2.2.2.2.2.2.2.2.2;have d3:=g.1.d.2.2.1;haveI d4:=g.1.d.2.2.2.1;haveI d5:=g.1.d.2.2.2.2;have I:=d3 o;haveI lz:∀w,E w=true->t.ae w=0->t.S w<=s0-1:=λw hw z=>by
  rcases F.3 w hw with q|⟨a,b,c,_⟩
  .exact absurd (aT q z) hL
  .refine az (o.v ⟨by lia,b⟩ c) λy MZ=>br MZ λZ L y3=>?_
   clear MZ;haveI:=((o.6 _ y Z).2.2 0 s0 hs).mpr;simp only[L,z]at this;lia
 haveI rL:∀j x,t.tr[j]? =some x->t.R (U x)= -1->t.ae (U x)≠0:=λj x i hr=>by
  rcases R.1 j x i with⟨_,j',a,_⟩|⟨a,_⟩
  .lia
  .have:=a.1;lia
 have C5:=Ac.jU (p':=λw=>(E w=true/\(w=U lit\/t.S w<=s0-1\/t.R w= -1))/\J.ae w≠0) (Tv.f_ I.tv) (λW wo aB h hw x k l l0=>by
  haveI ne:U x≠U lit:=λe=>hL (aT e<|aT G<|l0);rw[rB ne]at l;exact BW wo I (d4 R) (d5 K) ⟨aB.1,aB.2⟩ hw _ _ (-x) (k5 _) (I.neg k l).2.1 (B dJ l0)) (by show J.n<=5;exact B e1 r) (F.1.gr g.f_)
  (λf=>h0 (X.symm.trans f)) (λf=>⟨(h1 (X.symm.trans f)).1,λu hu=>by
    refine gn λM=>?_;obtain⟨sn,y,Z,L,y3,y4,y5⟩:=(h1 (X.symm.trans f)).2 u hu;exact M<|⟨sn,y,Z,L,(rB λe=>hL (by exact aT e<|aT G<|B L<|y4)).trans y3,y4,y5⟩⟩) (F.5.filter _) (λw=>by
    rw[dU,F.4];unfold T.r0;rw[k6];show _↔_/\J.ae w=0;exact B G (⟨λXd=>aU Xd λa b=>⟨⟨a,.inr (.inl (lz w a b))⟩,b⟩,λXe=>aU Xe λa b=>⟨a.1,b⟩⟩)) λw=>Iff.rfl
 have fl:∀x∈fd,a9 t x/\(x=lit\/(∃j:Nat,t.tr[j]? =some x)/\U x≠U lit/\t.val x=1/\E (U x)=true/\t.R (U x)= -1/\t.ae (U x)≠0):=λx i=>by
  refine Or.elim ((F.6 x).mp i) (λq=>?_) (λZX=>az ZX λj Ek=>eY Ek λa b c d e=>?_)
  .exact⟨B q ll,.inl q⟩
  .haveI A:=o.3 j x c;haveI k:=A.1;haveI l:=A.2.1;haveI sx:=A.2.2;exact⟨k,.inr (ee ⟨j,c⟩ (λq=>by rw[q]at sx;lia) l d e (rL j x c e))⟩
 have nn:∀x∈fd,-x∉fd:=λx i r=>by
  refine gn λM=>?_;haveI Kb:=fl x i;haveI k:=Kb.1;haveI q:=Kb.2;haveI A:=fl (-x) r;haveI m:=A.2;have z:=k.1;replace m:=dJ▸m;replace m:=(kX z)▸m;refine Or.elim q (λq=>?_) (λacu=>eI acu λY a b Y=>?_)
  .rcases m with m|⟨_,a',_⟩
   .lia
   .exact a' (B q rfl)
  .refine Or.elim m (λm=>?_) (λacv=>eI acv λY Y b' Y=>?_)
   .exact a (by refine aT m ?_;exact aT dJ rfl)
   .replace b':=b▸b';injection b'
 have td:=sd.td (λx i=>by
  refine gn λM=>?_;obtain⟨y,C,rfl⟩:=cW.mp i;exact M<|(fl y C).1.n.1) λx i r=>by
  obtain⟨y,C,rfl⟩:=cW.mp i;refine az (cW.mp r) λu ZZ=>aU ZZ λhu e=>?_;rw[h_]at e;exact nn u hu (B e C)
 have ey:=D3 (Tv.f_ I.tv) C5.1 td λx=>by
  haveI ex:x∈fd.map (λx=>-x)↔-x∈fd:=cW.trans ⟨λXf=>az Xf λy Xg=>aU Xg λC e=>by refine aT e ?_;rw[h_];exact C,λh=>⟨-x,h,h_ x⟩⟩
  haveI lt:∀z,a9 (J.f_ (U lit)) z↔a9 t z:=λz=>by unfold a9;rw[show(J.f_ (U lit)).n=t.n from e1]
  have P:=λz=>g.1.val z;simp only[sd.1,ex,lt,G];constructor
  .intro h;refine aU (fl _ h) λl1 q=>?_;have k:a9 t x:=by haveI:=l1.n;rwa[h_]at this
   have vn:=kX (t:=t) k.1;rcases q with q|⟨_,a,b,c,d,e⟩
   .have Q:U x=U lit:=aT q<|B dJ rfl;haveI:t.val x=1:=by rw[q,lf]at vn;lia
    exact(cg k (by rw[EE Q,P,this]) ⟨B Q F.2,.inl Q⟩ (B Q hL))
   .rw[dJ]at a c d e;exact(cg k (by rw[rB a,P];lia) ⟨c,.inr (.inr d)⟩ e)
  .intro M7;refine eI M7 λk l M8 c=>?_;try clear M7
   haveI a:=M8.1;haveI b:=M8.2;rcases cY (U x=U lit)with q|q
   .rcases kJ q with e|e
    .rw[EE q,P,e,lf]at l;exact absurd l (by decide)
    .exact(F.6 _).mpr (.inl (by rw[e,h_]))
   .rw[rB q,P]at l;refine br (o.neg k l) λn1 n2 n3=>?_;rcases F.3 _ a with w|⟨_,_,_,w⟩
    .exact absurd w q
    .haveI hz:s0<=t.S (U x):=by
      have:=((o.6 _ _ n2).2.2 0 s0 hs).mp (by rw[dJ];haveI:=(o.6 _ _ n2).1;rw[dJ]at this;lia)
      lia
     exact(F.6 _).mpr (.inr (cR ((t.S (U x)).toNat) (e_ (by lia) (by lia) n2 (B dJ a) (B dJ ((b.resolve_left q).resolve_left (by lia))))))
 refine cg (λx i=>⟨(fl x i).1,nn x i⟩) td (λf=>?_) λW wo aB=>?_
 .exact cF (C5.2 f) λs ps acx=>eY acx λr1 r2 r3 r4 r5=>cE s ps (e_ r1 r2 r3 r4 (B ey (Rn.of (t:=J.f_ (U lit)) (λs h=>⟨h,rfl⟩) r5)))
 .exact B ey (C5.3 W wo ⟨aB.1,aB.2⟩)
def si(W:(Int->Prop)->Prop)(lit:Int)(t J:T):Prop:=Q9
 (∃a,Uq t a/\J=a.iZ a.cf a.dc a.es J.fa J.fd a.ok)
 (J.pf=true->ek J)
 (gO W J)
 (J.ps.length+t.rt<=t.ps.length+J.rt+1)
 (∀x∈J.fd,x=lit\/∃i:Nat,t.tr[i]? =some x/\t.R (U x)= -1/\t.ae (U x)≠0)
 (∀h,W h->∃x∈J.fd,¬h x)
 (J.fd.length<=5/\∀x∈J.fd,a9 t x)
 ((t.pf=false\/∃x∈J.fd,-x∈J.fd)->J.fa=none)
 (t.pf=true->(∀x∈J.fd,-x∉J.fd)->∃s,J.fa=some s/\Sn J s/\Td (J.cs s)/\∀x,x∈J.cs s↔-x∈J.fd)
theorem DQ(h:Ev C l A c (.bool r))(d:r=true->aB C a l A R)(e:r=false->aB C b l A R):aB C (.ite c a b) l A R:=h _ (cR r (aS rfl d e))
theorem A4.Q1(aa:A4 e Z a b c d aY bU pr done):A4 e (H.eM Z d b y x) a b c d aY x pr y:=
 ⟨by rw[H.eM,H.a6 aa.5,H.a6 aa.7];exact aa.1,H.Cj,by rw[H.eM,H.a6 (cQ aa.8),H.a6 aa.10];exact aa.3,H.Ci (cQ aa.9),aa.5,aa.6,aa.7,aa.8,aa.9,aa.10,aa.11,aa.12,aa.13,aa.14,mE aa.12 (mE aa.14 aa.15)⟩
theorem A4.cV(aa:A4 e Z a b c d aY bU pr done):A4 e (Z.set a (.list (Zl x))) a b c d x bU pr done:=
 ⟨H.bC,(H.a6 (cQ aa.5)).trans aa.2,(H.a6 (cQ aa.6)).trans aa.3,(H.a6 (cQ aa.7)).trans aa.4,aa.5,aa.6,aa.7,aa.8,aa.9,aa.10,aa.11,aa.12,aa.13,aa.14,mE aa.11 aa.15⟩
theorem aiJ(M:Mem I t Z A)(f:∀A,kD C l A g (Zl xs))(i:∀A,kD C l A j (Zl ys))(m:∀bj e,Mem I t bj e->Ev C l e n u)
 (k:∀a b c d bj e,A4 Z bj a b c d xs [] [] ys->Mem I t bj e->Ss C r (((((l.set v (.ref a)).set w (.ref b)).set x (.ref c)).set y (.ref d)).set z u) e Q):Ss C (.jE [v,w,x,y,z] (.aE [.dj g,.dj [],.dj [],.dj j,n])::r) l A Q:=
 f A _ λa ha=>λb o=>λc p=>i _ _ λd hd=>(HZ M ha o p hd).elim λbj h=>m _ _ h.2 _ (cE _ _ (aS rfl rfl (k a b c d bj _ h.1 h.2)))
def ME(C:Cx)(f:aJ)(w:V)(es:List a7)(l:aH)(R:V->H->Prop)(v:V)(A:H):Prop:=Es C es l A λE A=>C f (w::v::E) A R
theorem Vw(M:Mem I t Z A)(h:Ev C l A o (.ref (I (.ob c))))(lv:jJ c t.pf .code≠none)(a:aB C b l A λv d=>ME C f (.ref (I (.ob c))) es l R v d):aB C (.aZ o c f (b::es)) l A R:=
 h _ ⟨d_ _ _ _ (aS rfl ((M.ob c lv).1) ((M.ob c lv).2)),a⟩
theorem OW(g:kD C l A es E)(k:C f (w::v::E) A R):ME C f w es l R v A:=g _ k
theorem Jf(M:Mem I t Z A)(c:fX C l A e E)(k:∀a b,Z a=none->Mem I t (Z.set a (.list E)) b->C f [.ref a] b R):aB C (.call f [e]) l A R:=
 c _ λa ha=>k a _ (M.dP ha) (M.dy (.inl ha))
theorem Ff.qq(F:Ff t lit N m mk fd pr i)(h:cB t)(d:a9 t lit)(e:t.n<=5):mk.length<=5/\fd.length<=5:=by
 refine⟨aV (pW F.5 λw hw=>?_) e,?_⟩
 .refine Or.elim (F.3 w ((F.4 w).mp hw)) (λq=>?_) (λq=>?_)
  .exact B q d.U
  .exact⟨q.1,q.2.1⟩
 .refine aT (b9 (f:=U))<|aV (pW F.7 λw hw=>?_) e;refine az (cW.mp hw) λx g=>aU g λk l=>?_;clear g;subst l;refine Or.elim ((F.6 x).mp k) (λq=>?_) (λa=>az a λj b=>eI b λY Y c Y=>?_)
  .exact B q<|d.U
  .exact(h.3 j x c).1.U
def RA(t:T)(I:bT->Nat)(f:H)(lit N:Int)(a b c d:Nat)(l:aH)(A:H)(i:Int)(Z:H)(e:Int->Bool)(mk fd:List Int)(pr:List (Int×Option Int)):Prop:=Q9
 (Mem I (t.jV e) Z A)
 (A4 f Z a b c d fd (mk.filter t.r0) (gV pr) mk)
 (Ff t lit N e mk fd pr i)
 (l .X=some (me I))
 (l .ft=some (.ref a))
 (l .bU=some (.ref b))
 (l .eH=some (.ref c))
 (l .rO=some (.ref d))
 (l .first=some (.int N))
theorem We{t:T}{Q:V->H->Prop}{h lit:Int}(M:Mem I t Z A)(S:So W t h)(wo:Wo W)(ll:a9 t lit)(lf:t.val lit= -1)(z:t.ae (U lit)≠0)(z':t.R (U lit)≠-1)(n0:t.pf=false->∀c,t.st c=none)(sl:t.pf=true->(t.ps.length:Int)+1<=14000000+t.rt)
 (q:∀af J,Mem I J Z af->si W lit t J->Q .none af):Ss (aA (k+7)) (Ie.drop 3) (((aH.set (λY=>none) .X (me I)).set .lit (.int lit)).set .var (.int (U lit))) A λfl Y A=>Q fl.val A:=by
 have b:=S.1.1;have t5:=b.1;have G:=S.1.3;have K:=S.1.4;have iv:=ll.fu;have ng:=G.neg ll lf;have jF:=b.jF;have b5:=b.2;have oT:=G.6 _ _ ng.2.1;have rs:=S.1.5.1 _ _ ng.2.1;rw[dJ]at oT rs;generalize eN:t.R (U lit)=N at rs z';have r:=rs.resolve_left λh=>z' h.1;have hN:=r.1;have nc:=r.2.1;have ro:=r.2.2;have ro:∀y∈t.cl N,y≠-lit->t.val y= -1/\t.S (U y)<t.S (U lit):=λy hy hn=>⟨(ro y hy hn).1,by have:=(ro y hy hn).2;lia⟩
 have hs:t.aK[0]? =some (t.aK[0]'(by lia)):=dZ _
 generalize t.aK[0]'_=s0 at hs;refine br (G.5 0 s0 hs) λakx aky Y=>?_;have sv:s0<=t.S (U lit):=by have:=(oT.2.2 0 s0 hs).mp (by lia);lia
 refine aiJ (xs:=[lit]) (ys:=[U lit]) (u:=.int N) M (λA=>aI (O rfl) aX) (λA=>aI (O rfl) aX) (λbj af M=>eF M (bY M rfl rfl rfl) (O rfl) rfl t5 (aP V.int eN) iv) λra rb rc rd gI A aa M=>?_;refine kU M gU (bY M rfl rfl rfl) (O rfl) rfl t5 iv wI λA M=>?_;have n1:=Nt.sn (sn:=aW t.sn (U lit) true) S.1.7;have d1:=n1.d;have r5:∀{n:Nat},n<=5->n<=bf:=λh=>aV h (bt rfl);have PX:∀{n:Nat},n<=5->n<bf:=λh=>df h (iV (bt rfl));refine eX M (O rfl) bb (aI (O rfl) (aI (O rfl) (aI (O rfl) (aI (O rfl) aX)))) (OS (k:=k+6) (mk:=[U lit]) (rt:=[]) (cQ aa.9) ((H.Cm aa.4 aa.2).symm▸M) (d1.1 b) (d1.2.2.2.2.1 K) hN (by decide:(1:Nat)<=20) (by decide:(0:Nat)<=20) λA s2 new M m=>?_)
 have F:=Ff.mD G K S.1.10 S.1.9 z hN ll lf nc ro m;have er:(U lit::new).filter t.r0=[]++new.filter (t.jV (aW t.sn (U lit) true)).r0:=by
  rw[List.filter_cons,bx (λh=>z (dQ h):¬t.r0 (U lit)=true)];rfl
 have M:Mem I (t.jV s2) (H.eM gI rd rb (U lit::new) ((U lit::new).filter t.r0)) A:=by exact B er M
 have aa:=aa.Q1 (y:=U lit::new) (x:=(U lit::new).filter t.r0);refine QK (λi l A=>s0-1<=i/\∃bj L mk fd pr,RA t I Z lit N ra rb rc rd l A i bj L mk fd pr) (a:=t.S (U lit)-1) (b:=s0-1) (dz (eF M (bY M rfl rfl rfl) (O rfl) rfl t5 rfl iv) a8 rfl trivial) (dz (kh (k:=0) M (bY M rfl rfl rfl) a8 rfl b.zz hs) a8 rfl trivial) (ig a8 rfl) ⟨by lia,by lia⟩ ⟨by lia,by lia⟩ ⟨by lia,_,s2,_,[lit],[],M,aa,F,rfl,rfl,rfl,rfl,rfl,rfl⟩ ?_ ?_
 .intro i l A hi Nb P p1 Y Y;refine aU Nb λi0 Nc=>jD Nc λbj L mk fd pr acH=>?_;clear Nc;try clear Nb
  obtain⟨M,aa,F,l1,l2,l3,l4,l5,l6⟩:=acH;have iS:i<t.S (U lit):=by haveI:=F.8;lia
  obtain⟨j,rfl⟩:∃j:Nat,i=j:=⟨i.toNat,by lia⟩
  have C:t.tr[j]? =some (t.tr[j]'(by lia)):=dZ _
  generalize t.tr[j]'_=x at C;have r:=G.3 j x C;have lx:=r.1;have vx:=r.2.1;have sx:=r.2.2;have ix:=lx.fu;have jW:=t5;obtain⟨lm,rL⟩:=F.qq G ll t5;have lp:pr.length<=5:=by haveI:=F.8;lia
  refine dG (fO (x:=U x) (kh M (bY M ‹_› rfl rfl) (O rfl) rfl jF C) rfl) ?_;have h1:Ev (aA (k+7)) ((l.set .cT (.int j)).set .d8 (.int (U x))) A (.aQ (.aC (.var .X) .iF) (.var .d8)) (.bool (L (U x))):=eF M (bY M ‹_› rfl rfl) (O rfl) rfl ‹_› rfl ‹_›;have h2:Ev (aA (k+7)) ((l.set .cT (.int j)).set .d8 (.int (U x))) A (.aQ (.aC (.var .X) .kx) (.var .d8)) (.int (t.R (U x))):=eF M (bY M ‹_› rfl rfl) (O rfl) rfl ‹_› rfl ‹_›;refine bL (gT (dC h1 λY=>dC (di h2 eG (c:=decide (t.R (U x)= -1)) (by cases decide (t.R (U x)= -1)<;>rfl)) λY=>hO)) (λy=>?_) λy=>?_
  .have z1:=(ow.mp y).1;have z2:=dQ (ow.mp (ow.mp y).2).1;refine m4 M (O ‹_›) (kh M (bY M ‹_› rfl rfl) (O rfl) rfl jF C) aa.1 (by exact B cj (PX rL)) λA M=>c_ (p1 _ _ ?_).1
   replace M:=j5▸M;exact⟨by lia,_,L,mk,fd++[x],pr,M,aa.cV,F.Aa G C iS z1 z2,l1,l2,l3,l4,l5,l6⟩
  .haveI fs:L (U x)=false->P .next ((l.set .cT (.int j)).set .d8 (.int (U x))) A:=λw=>(p1 _ _ (by exact⟨by lia,bj,L,mk,fd,pr,M,aa,F.skip G C iS w,l1,l2,l3,l4,l5,l6⟩)).1
   refine bL h1 (λw=>?_) λw=>c_ (c_ (fs w));have hr:t.R (U x)≠-1:=λe=>by replace y:=w▸y;replace y:=(cO e)▸y;exact nt y
   have r:=(S.1.5.1 j x C).resolve_left λh=>hr h.1;have c1:=r.1;have c2:=r.2.1;have c3:=r.2.2;haveI n2:=Nt.sn (sn:=L) S.1.7;haveI d2:=n2.d;refine m4 M (O ‹_›) (ju (aI (O rfl) (aI (sR M (d2.1 b) (d2.2.1 S.1.2) (bY M ‹_› rfl rfl) h2 c1) aX))) aa.3 (by simp only[gV,b9];exact PX lp) λA M=>?_
   rw[show([V.int (U x),oi ((t.jV L).st (t.R (U x)))])=[.int (U x),oi (t.st (t.R (U x)))]from rfl,Gu]at M;haveI aa:=aa.BY (x:=gV (pr++[(U x,t.st (t.R (U x)))]));haveI h2:Ev (aA (k+7)) ((l.set .cT (.int j)).set .d8 (.int (U x))) A (.aQ (.aC (.var .X) .kx) (.var .d8)) (.int (t.R (U x))):=eF M (bY M ‹_› rfl rfl) (O rfl) rfl ‹_› rfl ‹_›;refine eX M (O ‹_›) bb (aI h2 (aI (O rfl) (aI (O ‹_›) (aI (O ‹_›) aX)))) (OS (k:=k+6) (cQ aa.9) ((H.Cm aa.4 aa.2).symm▸M) (d2.1 b) (d2.2.2.2.2.1 K) c1 (aV lm (by decide)) (aV (lP ..) (aV lm (by decide))) λA s3 new M m=>c_ (c_ (p1 _ _ ?_).1))
   haveI F':=F.next G K S.1.10 z t5 ll C iS w hr c1 c2 c3 m;haveI er:(mk++new).filter t.r0=mk.filter t.r0++new.filter (t.jV L).r0:=List.filter_append ..;haveI M:Mem I (t.jV s3) (H.eM (bj.set rc (.list (gV (pr++[(U x,t.st (t.R (U x)))])))) rd rb (mk++new) ((mk++new).filter t.r0)) A:=by exact B er M
   exact⟨by lia,_,s3,_,fd,_,M,aa.Q1,F',l1,l2,l3,l4,l5,l6⟩
 .rintro i l A hi ⟨i0,bj,L,mk,fd,pr,M,aa,F,l1,l2,l3,l4,l5,l6⟩;haveI ei:i=s0-1:=by lia
  subst ei;obtain⟨lm,rL⟩:=F.qq G ll t5;have lp:pr.length<=5:=by haveI:=F.8;lia
  haveI n2:=Nt.sn (sn:=L) S.1.7;refine kR (O l5 _ ?_);refine D' (λY Y=>rfl) M t5 n2.2 aa.4 (r5 lm) (λw hw=>?_) l1 (λl=>l .ft=some (.ref ra)/\l .bU=some (.ref rb)/\l .eH=some (.ref rc)/\l .first=some (.int N)) (cg l2 l3 l4 l6) (λY Y h=>h) λl A t2 l1 WS M w2=>eI WS λl2 l3 l4 l6=>?_
  .rcases F.3 w ((F.4 w).mp hw)with q|q
   .exact B q iv
   .exact⟨by show 0<=w;lia,q.2.1⟩
  have e2:t2=t:=by
   have:t2.sn=t.sn:=funext λw=>by
    rw[S.1.9];cases h:t2.sn w with
    |false=>rfl
    |true=>haveI:=(w2.3 w).mp h;exact absurd ((F.4 w).mpr this.1) this.2
   refine w2.2.trans ?_;refine B this ?_;cases t;rfl
  rw[e2]at M;haveI lr:(mk.filter t.r0).length<=5:=aV (lP ..) lm;refine QG M (O ‹_›) aa.3 (iP M (O ‹_›) bb (aI (O ‹_›) aX) (Gz (k:=k) M b S.1.2 G S.1.5 K S.1.10 (.inl aa.2) (df lr (by decide)) (λw hw=>?_) λA t3 e us ne M gr P3 hq h0 h1 qt=>?_))
  .obtain⟨w1,w2⟩:=dU.mp hw;have w2:=dQ w2;refine Or.elim (F.3 w ((F.4 w).mp w1)) (λg=>?_) (λacA=>eI acA λg1 g2 g3 Y=>?_)
   .exact absurd (g▸w2) z
   .refine gn λkG=>?_;refine az (G.v ⟨by lia,g2⟩ g3) λy acB=>br acB λy1 y2 Y=>?_
    refine kG ?_;exact cE _ y (aS y1 y2 w2)
  haveI qt:=aV qt lr;haveI ca:=Sub.ne aa.3 ne;refine Rq (E:=gV pr) (ws:=gW us) M ((H.a6 ca).trans aa.3) H.bC ca (by simp only[gV,gW,b9,b9];exact aV (Nat.add_le_add lp qt) (bt rfl)) λA M=>?_
  rw[PV]at M;haveI v:=gr.1.f;haveI b3:=gr.1.d.1 b;generalize xY:(bj.set e (bN.list (gW us))).set rc (bN.list (gV (pr++ku us)))=jL at M;haveI sC:∀{y o},y≠rc->bj y=some o->jL y=some o:=λ{y o} h1 h2=>by refine aT xY ?_;refine B (H.a6 h1) ?_;refine B (H.a6 (Sub.ne h2 ne)) ?_;exact h2
  haveI yw:jL rc=some (.list (gV (pr++ku us))):=by refine aT xY ?_;exact H.bC
  haveI BP:=sC aa.6 aa.1;haveI Cb:=λy o h=>sC (Sub.ne h aa.13) (aa.15 y o h);refine kA M (JK (O l2) (M.3 _ _ BP) (by exact B cj (r5 rL))) (O ‹_›) bb (zG (x:=fd)) rfl λA M=>?_
  haveI em:(Zl fd).map (nO λx=>-x)=Zl (fd.map λx=>-x):=by
   show(fd.map V.int).map _=(fd.map λx=>-x).map V.int;simp only[fk,fk];rfl
  haveI cn:fX (aA (k+7)) l A (.comp (.neg (.var .d8)) false [.d8] .seq [.var .ft] []) (Zl (fd.map λx=>-x)):=em▸sT (O l2) (M.3 _ _ BP) (by rw[cj];exact r5 rL) λw hw=>by
   obtain⟨y,_,rfl⟩:=cW.mp hw;exact ig (O rfl) rfl
  haveI WR:Cn t3 N:=by unfold Cn at hN⊢;refine B v.2.2.2.2.2.2.2.1 ?_;exact hN
  refine vI (Vw M (O ‹_›) bb (Jf M cn λg A ng M=>ug M (.inl H.bC) (by rw[b9];exact df rL (by decide)) λA ys M sd=>?_))
  haveI M:=M.fD λy o h=>by rw[H.a6 (Sub.ne h ng)];exact h
  have r:=F.bZ G S.1.5 K ll lf hs z t5 gr h0 h1 sd;have fl:=r.1;haveI td:=r.2.1;haveI fr:=r.2.2.1;haveI fe:=r.2.2.2;have oF:Ev (aA (k+7)) l A (.aQ (.aC (.var .X) .cK) (.var .first)) (oi (t3.st N)):=sR (t:=t3.oJ fd) M ⟨b3.1,b3.2,b3.3,b3.4,b3.5,b3.6⟩ (haveI z3:=gr.1.d.2.1 S.1.2;⟨z3.1,z3.2,z3.3⟩) (bY M ‹_› rfl rfl) (O l6) WR
  have mem:=λx=>(sd.1 x).trans (cW.trans ⟨λWT=>az WT λy WU=>aU WU λhy e=>by refine aT e ?_;rw[h_];exact hy,λh=>⟨-x,h,h_ x⟩⟩)
  have bZ:∀A p x,Mem I ((p.oJ fd).rg x) jL A->Uq t p->(p.pf=true->ek p)->gO W p->(p.ps.length:Int)+t.rt<=t.ps.length+p.rt+1->(p.pf=false->x=none)->(p.pf=true->∃s,x=some s/\Sn p s/\p.cs s=ys)->Q .none A:=λA p x M u P4 E4 q4 x0 x1=>by
   have PK:=u.f.2.2.2.2.2.2.2.2.2;haveI u':=u;refine gz u λp0 qD qB vu e4=>?_;refine q A _ (M.fD Cb) ⟨⟨p,u',by rw[e4];rfl⟩,λf=>(P4 f).iZ,⟨E4.1,E4.2⟩,q4,λx C=>?_,λh hw=>?_,⟨rL,λx C=>(fl x C).1⟩,λh=>x0 (PK.trans (h.resolve_right λWY=>az WY λx WZ=>aU WZ λC hn=>(fl x C).2 hn)),λf Y=>?_⟩
   .exact((F.6 x).mp C).imp id λW5=>az W5 λj W_=>eY W_ λY Y c Y d=>⟨j,c,d,λe=>by
     rcases S.1.5.1 j x c with⟨_,j',a,_⟩|⟨a,_⟩
     .lia
     .have:=a.1;lia⟩
   .obtain⟨y,y1,y2⟩:=fe W wo (gr.3 W wo S.1.11) h hw;exact⟨-y,(mem y).mp y1,wo.c h hw y y2⟩
   .refine gn λkG=>?_;refine az (x1 (PK.trans f)) λs acC=>br acC λs1 s2 s3=>?_;refine kG ?_;exact(cR s (cg s1 s2 (by show Td (p.cs s);rw[s3];exact td) λx=>by show x∈p.cs s↔_;rw[s3];exact mem x))
  haveI B1:t.pf=true->(t3.ps.length:Int)+1<=14000000+t3.rt:=λf=>by haveI:=sl f;lia
  cases f:t.pf with
  |false=>
   have f3:=v.2.2.2.2.2.2.2.2.2.trans f;rw[v.2.2.2.2.2.2.2.2.1,n0 f]at oF;refine OW (aI oF (aI (O l4) aX)) (FQ M f3 _ (vD M (O ‹_›) bb uf rfl λA M=>d9 (bZ A t3 none M gr.1 (λh=>(by rw[f3]at h;exact nf h)) (gr.3 W wo S.1.11) (by lia) (λY=>rfl) λh=>(by rw[f3]at h;exact nf h))))
  |true=>
   have f3:=v.2.2.2.2.2.2.2.2.2.trans f;refine gn λkG=>?_;refine cF (fr f3) λs1 ps acD=>eY acD λr1 r2 r3 r4 r5=>?_;refine kG ?_;rw[r1]at oF;rw[r4,PR]at yw;haveI bp:=(P3 f).bp b3;haveI FT:ps.length<=10:=by
    haveI:=aP List.length r4;unfold ku at this;rw[cx,b9,b9]at this;lia
   have r6:=Rn.of (t:=t3) (J:=t3.oJ fd) (λs h=>⟨h,rfl⟩) r5;refine OW (aI oF (aI (O l4) aX)) (Bq M ⟨bp.1.1,bp.1.2,bp.1.3⟩ r2 r3 r6 (.inl yw) (df FT (by decide)) bp.2 λA p s M lg=>?_)
   have gl:=lg.gr (λW w aB=>r6.uz w (aB.2 f3) (aB.2 f3 s1 r2)) f3;have P:=P3 f;have P4:=lg.pf ⟨P.1,P.2,P.3,P.4,P.5,P.6,P.7,P.8⟩ ⟨(r6.td r3 (P.2 s1 r2).1).2,λx C=>by haveI:=(fl _ ((mem x).mp C)).1.n;rw[h_]at this;unfold a9 at this⊢;refine B ((v.1)) ?_;exact this⟩ (B1 f) gl.2
   haveI E3:=gr.3 W wo S.1.11;haveI E4:=gl.3 W wo ⟨E3.1,E3.2⟩;haveI ln:=lg.len;have Qj:p.rt=t3.rt:=by refine Or.elim lg.1 (λe=>?_) (λacE=>d7 acE λY Y Y e=>?_)<;>rw[e]<;>rfl
   haveI sn:=lg.2;haveI cs:=lg.3;refine gn λkG=>?_;refine gz gl.1 λp0 qD qB vu acF=>?_;subst acF;refine kG ?_;refine vD M (O ‹_›) bb (uf (x:=some s)) rfl λA M=>d9 (bZ A (t3.uq p0 qD qB vu) (some s) M (gr.1.trans (fh p0 qD qB vu rfl)) (λY=>⟨P4.1,P4.2,P4.3,P4.4,P4.5,P4.6,P4.7,P4.8⟩) ⟨E4.1,E4.2⟩ ?_ (λh=>(by replace h:=f3▸h;exact nt h)) λY=>⟨s,rfl,sn,cs⟩)
   haveI ln:qB.length<=t3.ps.length+1:=ln;haveI Qj:qD=t3.rt:=Qj;show(qB.length:Int)+t.rt<=t.ps.length+qD+1;lia
theorem Wi(M:Mem I t Z A)(S:So W t h)(wo:Wo W)(d:a9 t lit)(lf:t.val lit= -1)(w:t.fa=none)(E:t.pf=false->∀c,t.st c=none)(sl:t.pf=true->(t.ps.length:Int)+1<=14000000+t.rt)
 (q:∀af J,Mem I J Z af->si W lit t J->Q .none af):aA (k+8) .HA [me I,.int lit] A Q:=by
 have b:=S.1.1;have L:=b.1;have i:=S.1.3;have G:=d.fu;have ng:=i.neg d lf;haveI u:=i.6 _ _ ng.2.1;replace u:=dJ▸u;refine⟨_,rfl,dG (fO (O rfl) rfl) (bL (b:=decide (t.ae (U lit)=0)) (di (eF (f:=λj=>.int (t.ae j)) (j:=U lit) M (bY M rfl rfl rfl) (O rfl) rfl ‹_› rfl ‹_›) a8 (by cases decide (t.ae (U lit)=0)<;>rfl)) (λz=>?_) λz=>c7 (bL (b:=decide (t.R (U lit)= -1)) (di (eF (f:=λj=>.int (t.R j)) (j:=U lit) M (bY M rfl rfl rfl) (O rfl) rfl ‹_› rfl ‹_›) eG (by cases decide (t.R (U lit)= -1)<;>rfl)) (λm=>?_) λm=>c7 ?_))⟩
 .have z:=dQ z;have E0:iz W [-lit]:=λh hw=>⟨-lit,jo _,BW wo i S.1.5 S.1.4 S.1.11 hw _ _ (-lit) (k5 _) ng.2.1 (aT dJ.symm z)⟩;refine kA M (ju (aI (show Ev _ _ _ _ (.int lit)by exact O rfl) aX)) (O rfl) bb (zG (x:=[lit])) rfl λA M=>?_
  haveI N:Td [-lit]:=⟨λx a=>B (cL.mp a) d.n.1,List.pairwise_singleton ..⟩;haveI nt:∀x∈[lit],-x∉[lit]:=λx a o=>by
   rw[cL.mp a]at o;have:=cL.mp o;have:=d.1;lia
  have O_:∀h,W h->∃x∈[lit],¬h x:=λh hw=>⟨lit,jo _,λg=>by
   refine az (E0 h hw) λx Z1=>aU Z1 λa e=>?_;rw[cL.mp a]at e;exact wo.c h hw lit g e⟩
  cases f:t.pf with
  |false=>
   refine vI (DQ (r:=true) (by haveI:=w7 (l:=(((aH.set (λY=>none) .X (me I)).set .lit (.int lit)).set .var (.int (U lit)))) (C:=aA (k+7)) M rfl;rw[show(t.oJ [lit]).pf=false from f]at this;exact this) (λY=>ki _ (vD M (O rfl) bb (uf (x:=none)) rfl λA M=>cI ki (q A _ M ?_))) λz=>absurd z (by decide))
   exact⟨⟨t,.gX,by clear S d lf w E sl q b L i G ng u z f M;cases t;rfl⟩,λh=>(by replace h:=f▸h;exact nf h),⟨S.1.11.1,S.1.11.2⟩,by show t.ps.length+t.rt<=t.ps.length+t.rt+1;lia,λx a=>.inl (cL.mp a),O_,⟨bt rfl,λx a=>B (cL.mp a) d⟩,λY=>rfl,λh=>by rw[f]at h;exact nf h⟩
  |true=>
   haveI S':=S.iZ (cf:=t.cf) (dc:=t.dc) (es:=t.es) (fa:=t.fa) (fd:=[lit]) (ok:=t.ok);haveI np:=w7 (l:=(((aH.set (λY=>none) .X (me I)).set .lit (.int lit)).set .var (.int (U lit)))) (C:=aA (k+7)) M rfl;rw[show(t.oJ [lit]).pf=true from f]at np;refine vI (DQ np nf λY=>iP M (O rfl) bb (aI (O rfl) aX) (Rj M S'.1.1 S'.1.2 S'.1.3 S'.1.5 S'.1.4 (S'.1.10 f) ng.2.1 dJ z λA J s M gr P' hq hu=>?_));refine vD M (O rfl) bb (uf (x:=some s)) rfl λA M=>cI ki (q A _ M ?_);have P:=gr.3 W wo S'.1.11;have v':∀y,J.val y=t.val y:=λy=>gr.1.val y;refine az (P'.4 (U lit) s (by unfold In;exact B gr.1.f.1 G) hu) λy Na=>iM Na λy1 y2 y3 y4 y5 y6=>?_
   clear Na;have ey:=(kJ y2).resolve_left λe=>by simp only[v',e,lf]at y3;injection y3
   have oJ:J.fd=[lit]:=by refine gz gr.1 λY Y Y Y e=>B e ?_;rfl
   have gg:∃p,Uq t p/\J.rg (some s)=p.iZ p.cf p.dc p.es (J.rg (some s)).fa (J.rg (some s)).fd p.ok:=by
    refine gz gr.1 λus rt ps pe acG=>?_;subst acG;exact⟨_,fh us rt ps pe rfl,by clear S d lf w E sl q b L i G ng u z f S' gr P' hq hu M P v' y1 y3 y4 y5 y6 oJ;cases t;rfl⟩
   haveI v:(J.rg (some s)).fd=[lit]:=oJ;refine⟨gg,λY=>⟨P'.1,P'.2,P'.3,P'.4,P'.5,P'.6,P'.7,P'.8⟩,⟨P.1,P.2⟩,by haveI:J.ps.length+t.rt<=t.ps.length+J.rt:=hq;show J.ps.length+t.rt<=t.ps.length+J.rt+1;lia,?_,?_,?_,?_,λY Y=>cR s (cg rfl y5 ?_ λx=>?_)⟩
   .exact v▸λx a=>.inl (cL.mp a)
   .exact v▸O_
   .exact v▸⟨bt rfl,λx a=>B (cL.mp a) d⟩
   .refine B v ?_;rintro(h|⟨x,a,o⟩)
    .replace h:=f▸h;injection h
    .exact absurd o (nt x a)
   .show Td (J.cs s);rw[y6,ey];exact N
   .show x∈J.cs s↔_;rw[v,y6,ey,cL,cL];exact⟨λe=>by rw[e,h_],λe=>by refine aT e ?_;rw[h_]⟩
 .have m:=dQ m;refine kA M (ju (aI (ig (O rfl) rfl) (aI (show Ev _ _ _ _ (.int lit)by exact O rfl) aX))) (O rfl) bb (zG (x:=[-lit,lit])) rfl λA M=>cI ki (q A _ M ?_)
  refine⟨⟨t,.gX,by clear S d lf w E sl q b L i G ng u z m M;cases t;rfl⟩,λf=>(S.1.10 f).iZ,⟨S.1.11.1,S.1.11.2⟩,by show t.ps.length+t.rt<=t.ps.length+t.rt+1;lia,λx a=>?_,λh hw=>?_,⟨bt rfl,λx a=>?_⟩,λY=>w,λY o=>absurd (cP _ (jo _)) (o (-lit) (bE ..)|>λg=>by rwa[h_]at g)⟩
  .rcases dW.mp a with e|e
   .exact B e<|B dJ<|.inr ⟨_,ng.2.1,m,gZ z⟩
   .exact .inl (cL.mp e)
  .refine dx (h lit) (λg=>?_) λg=>?_
   .exact⟨-lit,bE ..,wo.c h hw lit g⟩
   .exact⟨lit,cP _ (jo _),g⟩
  .rcases dW.mp a with e|e
   .exact B e d.n
   .exact B (cL.mp e) d
 .exact We M S wo d lf (gZ z) (gZ m) E sl q
noncomputable def mQ:Nat->List Nat->Nat
 |0,_=>0
 |k+1,[]=>9*10^k+mQ k []
 |k+1,a::r=>a*10^k+mQ k r
theorem zQ:∀{k:Nat} {l:List Nat},(∀a∈l,a<=9)->mQ k l<10^k
 |0,_,_=>Nat.one_pos
 |k+1,[],h=>by
  exact Nat.lt_of_lt_of_eq (Nat.add_lt_add_left (zQ (k:=k) h) _) ((Nat.succ_mul 9 _).symm.trans (Nat.mul_comm _ _))
 |k+1,a::r,h=>by
  exact Nat.lt_of_lt_of_eq (Nat.add_lt_add_of_le_of_lt (Nat.mul_le_mul_right _ (h a (bE ..))) (zQ (k:=k) λb c=>h b (cP _ c))) ((Nat.succ_mul 9 _).symm.trans (Nat.mul_comm _ _))
theorem I7:∀{k:Nat} {l:List Nat},(∀a∈l,a<=9)->mQ k l<=mQ k []
 |0,_,_=>dR _
 |k+1,[],_=>dR _
 |k+1,a::r,h=>Nat.add_le_add (Nat.mul_le_mul_right _ (h a (bE ..))) (I7 λb c=>h b (cP _ c))
theorem zP:∀{k:Nat} (p:List Nat) {q:List Nat},(∀a∈q,a<=9)->mQ k (p++q)<=mQ k p
 |0,_,_,_=>dR _
 |k+1,[],q,h=>I7 h
 |k+1,a::p,q,h=>Nat.add_le_add_left (zP p h) _
theorem I6:∀{k:Nat} (p:List Nat) {q:List Nat} {m:Nat},p.length<k->(∀a∈q,m<a)->m<9->mQ k (p++[m])<mQ k (p++q)
 |0,_,_,_,h,_,_=>absurd h (Nat.not_lt_zero _)
 |k+1,[],[],m,_,_,c=>by
  show m*10^k+mQ k []<9*10^k+mQ k [];exact Nat.add_lt_add_right (Nat.mul_lt_mul_of_pos_right c (Nat.pow_pos (n:=k) (by decide:0<10))) _
 |k+1,[],a::q,m,_,h,c=>by
  show m*10^k+mQ k []<a*10^k+mQ k q;haveI d:=Nat.mul_le_mul_right (10^k) (Nat.succ_le_of_lt (h a (bE ..)));haveI e:=zQ (k:=k) λb f=>absurd f gh;exact j_ (Nat.add_lt_add_left e _) (aV (Nat.le_of_eq (Nat.succ_mul ..).symm) (aV d (jK ..)))
 |k+1,a::p,q,m,g,h,c=>Nat.add_lt_add_left (I6 p (Nat.lt_of_succ_lt_succ g) h c) _
noncomputable def T.oU(t:T):List Nat:=t.tr.map λx=>(t.ae (U x)).toNat
noncomputable def T.dg(t:T):Nat:=mQ 5 t.oU
def As(t:T)(a:List Int):Prop:=Q4
 (∀j x,j<t.aK.length->a[j]? =some x->t.val x=1/\t.ae (U x)<=j+1)
 (∀(i:Nat) x,t.tr[i]? =some x->t.R (U x)= -1->t.ae (U x)<=a.length->x∈a)
 (∀(j:Nat) d,t.aK[j]? =some d->j<=a.length+d)
 (t.aK.length<=a.length+t.tr.length)
theorem cB.FU(b:cB t)(d:t.aK.length<=9):∀a∈t.oU,a<=9:=λa ha=>by
 obtain⟨x,c,rfl⟩:=cW.mp ha;obtain⟨i,hi,e⟩:=List.mem_iff_getElem.mp c;have:=(b.6 i x (aT e (dZ hi))).2.1;lia
theorem OP(d:cB t)(a:v7 t J r):∃q,J.oU=t.oU++q:=by
 refine gn λb=>?_;obtain⟨y,f⟩:=a.2.2;refine b<|⟨y.map λx=>(J.ae (U x)).toNat,?_⟩;unfold T.oU;refine B f<|B iJ<|aP (·++_) (k8 λx g=>?_)
 refine gn λb=>?_;obtain⟨i,hi,e⟩:=List.mem_iff_getElem.mp g;refine b ?_;have c:=d.3 i x (aT e (dZ hi));haveI h:=c.1;haveI j:=c.2.1;exact((a.2.1 x h (by refine B j ?_;decide)).2.1)▸rfl
theorem As.pr(aa:As t g)(l:cB t)(m:cB J)(o:∀x∈g,a9 t x)(a:v7 t J r):As J g:=by
 haveI lt:∀x,a9 J x↔a9 t x:=λx=>by unfold a9;rw[a.1.n]
 refine az a.2.2 λy p=>⟨λj x q f=>?_,λi x f hr hL=>?_,λj d hd=>aa.3 j d (aT a.4 hd),by simp only[a.4,p,cx];haveI:=aa.4;lia⟩
 .haveI h:=aa.1 j x (aT a.4 q) f;haveI v1:=h.1;haveI v2:=h.2;haveI e:=a.2.1 x (o x (jq f)) (by rw[v1];decide)
  exact⟨e.1.trans v1,B e.2.1 v2⟩
 .refine br (m.3 i x f) λb k sx=>?_;have b:=(lt x).mp b;rcases cY (t.val x=0)with z|z
  .exact absurd hr (a.2.4 x b z (by refine B k ?_;decide))
  .haveI e:=a.2.1 x b z;haveI c:=l.4 x b (e.1.symm.trans k);exact aa.2 _ x c.2 (e.2.2.2▸hr) (e.2.1▸hL)
theorem afB(c:cB t)(n:cB J)(f:J.tr.length<=5)(o:t.aK.length<=9)(H:tW W t J):J.dg<t.dg:=by
 refine d7 H.11 λlv s x j=>br j λd p g=>?_;clear j;have k:=(fR.mp d).1;have ln:J.aK.length=lv:=by rw[p,k9];exact Nat.min_eq_left (c9 k)
 refine br (c.5 lv s d) λs0 s1 Y=>?_;have r:J.tr[(t.tr.take s.toNat).length]? =some x:=B g (lS (dR _)|>.trans (by rw[Nat.sub_self];rfl))
 haveI h:=n.6 _ x r;haveI u:J.oU=((t.tr.take s.toNat).map λx=>(t.ae (U x)).toNat)++[(J.ae (U x)).toNat]:=by
  unfold T.oU;refine B g<|B iJ<|aP (·++_) (k8 λy b=>?_)
  refine gn λv=>?_;obtain⟨i,hi,e⟩:=List.mem_iff_getElem.mp b;refine v ?_;have l:=j_ hi (by rw[k9];exact Nat.min_le_left ..)
  have b:t.tr[i]? =some y:=by
   haveI:=dZ hi;rw[e,List.getElem?_take,bA l]at this;exact this
  haveI m:=c.3 i y b;haveI w:=m.1;haveI z:=m.2.1;exact((H.12 y w (by rw[z];decide) (B ln ((l7 c d b).mp (Int.lt_toNat.mp l)))).2)▸rfl
 haveI A:t.oU=((t.tr.take s.toNat).map λx=>(t.ae (U x)).toNat)++(t.tr.drop s.toNat).map λx=>(t.ae (U x)).toNat:=by
  unfold T.oU;refine aT iJ ?_;rw[List.take_append_drop]
 unfold T.dg;simp only[u,A];refine I6 _ (by rw[b9];rw[g,cx]at f;simp only[lQ,k7]at f;exact f) (λa ha=>?_) (df (Int.toNat_le.mpr h.2.1) (j_ (B ln k) o))
 obtain⟨y,b,rfl⟩:=cW.mp ha;obtain⟨i,hi,e⟩:=List.mem_iff_getElem.mp b;haveI b:t.tr[s.toNat+i]? =some y:=by refine aT List.getElem?_drop ?_;rw[dZ hi,e]
 haveI:=(l7 c d b).mpr;exact(Int.toNat_lt h.1).mpr (Int.lt_of_le_of_lt (fp h.2.1 (Int.ofNat_le.mpr (Nat.le_of_eq ln))) (Int.lt_of_lt_of_le (Int.not_le.mp λq=>Int.not_lt.mpr (fp (Int.self_le_toNat s) (Int.ofNat_le.mpr (jK ..))) (this q)) (Int.self_le_toNat _)))
theorem As.ha(aa:As t c)(h:cB t)(k:∀x∈c,a9 t x)(H:tW W t J):As J c:=by
 refine d7 H.11 λlv s x f=>br f λb g l=>?_;clear f;have m:=(fR.mp b).1;have ln:J.aK.length=lv:=by rw[g,k9];exact Nat.min_eq_left (c9 m)
 refine br (h.5 lv s b) λs0 s1 Y=>⟨λj y o a=>?_,λi y a hr hL=>?_,λj d hd=>aa.3 j d ?_,?_⟩
 .obtain⟨v1,v2⟩:=aa.1 j y (by lia) a
  haveI e:=H.12 y (k y (jq a)) (by rw[v1];decide) (by lia)
  exact⟨e.1.trans v1,B e.2 v2⟩
 .exact br (H.13 i y a hr) λa1 a2 n=>aa.2 i y a1 a2 (aT n hL)
 .replace hd:=g▸hd;replace hd:=List.getElem?_take▸hd
  split at hd
  .exact hd
  .exact nn hd
 .haveI:=aa.3 lv s b;simp only[ln,l,cx,k9];simp only[lQ,k7];lia
theorem So.pr(S:So W t h)(a:v7 t J r)(V:Vp J o)(H:kE J o):So W J o:=by
 have ex:=a.2;refine az ex.2 λy q=>?_;haveI lv:∀x,a9 t x->t.val x=1->J.val x=1/\J.ae (U x)=t.ae (U x):=λx I A=>by
  haveI:=ex.1 x I (by rw[A];decide)
  exact⟨this.1.trans A,this.2.1⟩
 refine az a.1 λs L=>?_;subst L;have C:∀c,Cn t c->∀x,x∈(t.pg s).cl c↔x∈t.cl c:=λc b x=>(ex.3 c b).mem_iff;refine⟨⟨V.6,⟨S.1.2.1,S.1.2.2,S.1.2.3⟩,V.1,V.2,V.3,V.4,⟨S.1.7.1,S.1.7.2,S.1.7.3,S.1.7.4⟩,λv v1 v2 e=>?_,S.1.9,λf=>?_,⟨λc b w hw=>?_,S.1.11.2⟩⟩,V.5,H,λc b=>⟨λe=>(S.4 c b).1 ?_,λx e=>?_⟩⟩
 .haveI p:=qA (t:=t) v1 v2;refine S.1.8 v v1 v2 (jX λz=>z ?_);refine aT p.2.2<|jX λE=>E ((ex.1 v p.1 E).1.symm.trans ?_);haveI p':=qA v1 v2;exact B p'.2.2 e
 .have P:=S.1.10 f;refine⟨P.1,P.2,λc b=>?_,λv u M e=>?_,P.5,?_,λi x hi e=>?_,P.8⟩
  .exact gn λj=>az (P.3 c b) λu k=>eI k λl m N Q=>j<|(cR u (cg l m N λx=>(Q x).trans (C c b x).symm))
  .refine gn λj=>az (P.4 v u M e) λx n=>eY n λd g R X Z=>j ?_;haveI:=lv x d R;rw[g]at this;exact cR x (e_ d g this.1 (this.2.trans X) Z)
  .simp only[q,cx];haveI:=P.6;show t.rt<=_;lia
  .rw[q,lR (by haveI:=P.6;haveI:i<t.rt:=hi;lia)]at e
   exact P.7 i x hi e
 .exact az (S.1.11.1 c b w hw) λx Z4=>aU Z4 λd g=>⟨x,(C c b x).mpr d,g⟩
 .have:=ex.3 c b;rw[e]at this;exact List.nil_perm.mp this
 .haveI p:=ex.3 c b;rw[e]at p;have e:=List.singleton_perm.mp p;haveI G:=(S.4 c b).2 x e.symm;haveI l:=G.1;haveI m:=G.2;haveI:=lv x (S.1.4.2 c x b (aT e (jo x))).1 l;exact⟨this.1,this.2.trans m⟩
noncomputable def T.eU(t:T):T:=t.B_ (t.aK++[(t.tr.length:Int)])
theorem So.eU(S:So W t t.hd)(hd:t.hd=t.tr.length)(I:t.aK.length<=8):So W t.eU t.eU.hd:=by
 haveI g:=S.1.3;have es:∀{j:Nat} {d:Int},t.eU.aK[j]? =some d->(t.aK[j]? =some d/\j<t.aK.length)\/(j=t.aK.length/\d=t.tr.length):=λ{j d} e=>by
  haveI e:(t.aK++[(t.tr.length:Int)])[j]? =some d:=e;rcases Nat.lt_or_ge j t.aK.length with q|q
  .rw[lR q]at e;exact .inl ⟨e,q⟩
  .replace e:=(lS q)▸e;cases z:j-t.aK.length with
   |succ m=>replace e:=z▸e;exact nn e
   |zero=>replace e:=z▸e;injection e with e;subst e;exact .inr ⟨by lia,rfl⟩
 haveI ln:t.eU.aK.length=t.aK.length+1:=cx ..;refine⟨⟨⟨S.1.1.1,S.1.1.2,by refine B ln ?_;lia,S.1.1.4,S.1.1.5,S.1.1.6⟩,⟨S.1.2.1,S.1.2.2,S.1.2.3⟩,⟨g.1,g.2,g.3,g.4,λj d e=>?_,λi x e=>?_⟩,⟨S.1.4.1,S.1.4.2⟩,⟨λi x e=>?_⟩,⟨S.1.6.1,S.1.6.2,S.1.6.3⟩,⟨S.1.7.1,S.1.7.2,S.1.7.3,S.1.7.4⟩,S.1.8,S.1.9,λf=>haveI P:=S.1.10 f;⟨P.1,P.2,P.3,P.4,P.5,P.6,P.7,P.8⟩,⟨S.1.11.1,S.1.11.2⟩⟩,S.2,⟨S.3.1,S.3.2,λj d e=>?_⟩,S.4⟩
 .rcases es e with⟨a,b⟩|⟨a,b⟩
  .haveI n:=g.5 j d a;haveI s0:=n.1;haveI s1:=n.2.1;haveI s2:=n.2.2;refine aS s0 s1 λu v h w=>?_;refine Or.elim (es h) (λo=>aU o λk l=>?_) (λp=>aU p λk l=>?_)
   .exact s2 u v k w
   .exact B l s1
  .refine(aS (by lia) (by show d<=t.tr.length;lia) λu v h w=>?_)
   refine Or.elim (es h) (λr=>aU r λk l=>?_) (λs=>aU s λk l=>?_)
   .lia
   .lia
 .refine br (g.6 i x e) λy J A=>(aS y (by rw[ln];show t.ae (U x)<=_;lia) λj d h=>?_)
  rcases es h with⟨a,b⟩|⟨a,b⟩
  .exact A j d a
  .haveI:=(fR.mp e).1;haveI:i<t.tr.length:=this;show j<t.ae (U x)↔_;lia
 .refine(S.1.5.1 i x e).imp (λC=>aU C λa E=>az E λj G=>aU G λb c=>⟨a,j,b,?_⟩) id;exact(lR (fR.mp c).1).trans c
 .rcases es e with⟨a,b⟩|⟨a,b⟩
  .exact S.3.3 j d a
  .show d<=t.hd;lia
theorem So.cG(S:So W t h)(a:a9 t l)(h0:t.val l=0)(hr:v9 t l r):So W (t.cG l r) h:=by
 haveI sc:=S.1.sc.cG a h0 hr;refine⟨⟨sc.1,sc.2,sc.3,sc.4,sc.5,⟨S.1.6.1,S.1.6.2,S.1.6.3⟩,sc.6,sc.7,sc.8,sc.9,sc.10⟩,S.2.cG S.1.4 h0 a S.3.2,S.3.cG,λc b=>⟨(S.4 c b).1,λx e=>?_⟩⟩;have d:=(S.4 c b).2 x e;have f:=d.1;haveI g:=d.2;haveI ne:=lC h0 a (by refine B f ?_;decide)
 haveI i:(t.cG l r).ae (U x)=t.ae (U x):=b7 ne;exact⟨(nC ne).trans f,i.trans g⟩
theorem OO{t:T}:v9 t.eU l (-1):=.inl ⟨rfl,t.aK.length,by show _=(t.aK++[_]).length;simp only[cx];rfl,(lS (dR _)).trans (by rw[Nat.sub_self];rfl)⟩
theorem As.eU(aa:As t b)(f:cB t)(g:b[t.aK.length]? =some x)(v:t.val x=1)(h:a9 t x):As t.eU b:=by
 haveI c:=f.4 x h v;have ae:=(f.6 _ _ c.2).2.1;have i:=(fR.mp g).1;refine⟨λj y k a=>?_,aa.2,λj d e=>?_,?_⟩
 .haveI k:j<t.aK.length+1:=by haveI:t.eU.aK.length=t.aK.length+1:=cx ..;lia
  refine Or.elim (Nat.lt_or_ge j t.aK.length) (λq=>?_) (λq=>?_)
  .exact aa.1 j y q a
  .haveI:j=t.aK.length:=by lia
   replace a:=this▸a;replace a:=g▸a;injection a with a;subst a
   exact⟨v,by show t.ae (U x)<=_;lia⟩
 .haveI e:=e;refine Or.elim (Nat.lt_or_ge j t.aK.length) (λq=>?_) (λq=>?_)
  .haveI e:=(lR q)▸e;exact aa.3 j d e
  .replace e:=(lS q)▸e;cases z:j-t.aK.length with
   |succ m=>replace e:=z▸e;exact nn e
   |zero=>replace e:=z▸e;injection e with e;subst e;lia
 .show(t.aK++[_]).length<=b.length+t.tr.length;exact B cx (aV i (jK _ _))
theorem As.cG(aa:As t h)(n:cB t)(s:∀y∈h,a9 t y)(h0:t.val x=0)(k:a9 t x)(c:h[t.aK.length]? =some x\/h.length<=t.aK.length):As (t.eU.cG x (-1)) h:=by
 haveI ln:t.eU.aK.length=t.aK.length+1:=cx ..;haveI o:=(uy (t:=t.eU) (r:=-1) k.1).1;haveI g:(t.eU.cG x (-1)).ae (U x)=t.eU.aK.length:=cU;refine⟨λj y l f=>?_,λi y e hr hL=>?_,λj d e=>?_,?_⟩
 .haveI l:j<t.aK.length+1:=aT ln l;rcases Nat.lt_or_ge j t.aK.length with q|q
  .refine aU (aa.1 j y q f) λa b=>?_;have ne:=lC (t:=t.eU) h0 k (by rw[a];decide:t.val y≠0)
   haveI g:(t.eU.cG x (-1)).ae (U y)=t.ae (U y):=b7 ne;exact⟨(nC ne).trans a,B g b⟩
  .haveI:j=t.aK.length:=by lia
   subst this;rcases c with c|c
   .replace f:=c▸f;injection f with f;subst f
    exact⟨o,by rw[g,ln];lia⟩
   .have:=(fR.mp f).1;lia
 .haveI e:(t.tr++[x])[i]? =some y:=e;refine Or.elim (Nat.lt_or_ge i t.tr.length) (λq=>?_) (λq=>?_)
  .replace e:=(lR q)▸e;haveI ne:=lC (t:=t.eU) h0 k (by rw[(n.3 i y e).2.1];decide:t.val y≠0)
   have p:(t.eU.cG x (-1)).R (U y)=t.R (U y):=b7 ne;haveI g:(t.eU.cG x (-1)).ae (U y)=t.ae (U y):=b7 ne;exact aa.2 i y e (aT p hr) (aT g hL)
  .rw[lS q]at e;haveI:=cL.mp (jq e);haveI this:=this.symm;subst this;rw[g,ln]at hL;rcases c with c|c
   .exact jq c
   .lia
 .haveI e:=e;refine Or.elim (Nat.lt_or_ge j t.aK.length) (λq=>?_) (λq=>?_)
  .haveI e:=(lR q)▸e;exact aa.3 j d e
  .replace e:=(lS q)▸e;cases z:j-t.aK.length with
   |succ m=>replace e:=z▸e;exact nn e
   |zero=>replace e:=z▸e;injection e with e;subst e;haveI:=aa.4;lia
 .show(t.aK++[_]).length<=h.length+(t.tr++[x]).length;simp only[cx,cx];haveI:=aa.4;exact Nat.succ_le_succ this
theorem I4(c:cB t)(h0:t.val x=0)(d:a9 t x)(g:t.aK.length<=8):(t.eU.cG x (-1)).dg<=t.dg:=by
 haveI ln:t.eU.aK.length=t.aK.length+1:=cx ..;haveI:(t.eU.cG x (-1)).oU=t.oU++[t.aK.length+1]:=by
  show(t.tr++[x]).map _=t.tr.map _++_;refine iJ.trans<|congr (aP _ (k8 λy f=>?_)) ?_
  .obtain⟨i,hi,e⟩:=List.mem_iff_getElem.mp f;haveI:=c.3 i y (aT e (dZ hi));haveI ne:=lC h0 d (by rw[this.2.1];decide)
   haveI b:(t.eU.cG x (-1)).ae (U y)=t.ae (U y):=b7 ne;exact B b rfl
  .haveI b:(t.eU.cG x (-1)).ae (U x)=t.eU.aK.length:=cU;show[((t.eU.cG x (-1)).ae (U x)).toNat]=_;refine B b<|B ln ?_;rfl
 unfold T.dg;exact B this<|zP _ λa ha=>by refine B (cL.mp ha) ?_;lia
theorem So.ahS(S:So W t h)(hh:h=t.tr.length)(al:∀v:Int,1<=v->v<=t.n->t.aa v≠0)(d:Cn t c):∃x∈t.cl c,t.val x=1:=by
 haveI as:=λx g=>by
  have f:=(S.1.4.2 c x d g).1;refine(S.1.3.G6 f).resolve_left λe=>al _ f.U.1 f.U.2 ?_;rw[lM]at e;split at e<;>lia
 refine aU (S.4 c d) λi j=>?_
 match e:t.cl c with
 |[]=>exact absurd e i
 |[x]=>exact⟨x,jo x,(j x e).1⟩
 |a::b::r=>
  rw[e]at as;rcases as a (bE ..)with z|z
  .exact⟨a,bE ..,z⟩
  .haveI k:=(S.1.4.2 c a d (B e (bE ..))).1;haveI:=(S.2 c a b r d e a b (.inl ⟨rfl,rfl⟩) z (B hh ((S.1.3.neg k z).2.2))).resolve_left id;exact⟨b,cP _ (bE ..),this.1⟩
theorem So.hq(S:So W t h)(q:HQ t.n a p)(g:∀v:Int,1<=v->v<=t.n->t.aa v=0->0<=p v):So W (t.hq a p) h:=
 ⟨⟨⟨S.1.1.1,S.1.1.2,S.1.1.3,S.1.1.4,S.1.1.5,S.1.1.6⟩,⟨S.1.2.1,S.1.2.2,S.1.2.3⟩,⟨S.1.3.1,S.1.3.2,S.1.3.3,S.1.3.4,S.1.3.5,S.1.3.6⟩,⟨S.1.4.1,S.1.4.2⟩,⟨S.1.5.1⟩,⟨S.1.6.1,S.1.6.2,S.1.6.3⟩,⟨S.1.7.1,q,S.1.7.3,S.1.7.4⟩,g,S.1.9,λf=>haveI P:=S.1.10 f;⟨P.1,P.2,P.3,P.4,P.5,P.6,P.7,P.8⟩,⟨S.1.11.1,S.1.11.2⟩⟩,S.2,⟨S.3.1,S.3.2,S.3.3⟩,S.4⟩
def RL(t J:T):Prop:=CL
 (J.n=t.n)
 (J.m=t.m)
 (J.ok=t.ok)
 (J.pf=t.pf)
 (J.es=t.es)
 (J.fa=t.fa)
 (J.fd=t.fd)
 (J.ps=t.ps)
 (J.rt=t.rt)
 (J.st=t.st)
 (J.cl=t.cl)
 (J.aK.length=t.aK.length+1)
 (J.dg<=t.dg)
theorem aiS(M:Mem I t Z A)(S:So W t t.hd)(wo:Wo W)(hd:t.hd=t.tr.length)(aa:As t a)(g3:a.length<=3)(lg:∀x∈a,a9 t x)(hp:Z p=some (.list (Zl a)))(rh:t.fa=none)(n0:t.pf=false->∀c,t.st c=none)(sl:t.pf=true->(t.ps.length:Int)+1<=14000000+t.rt)
 (qn:∀f J,Mem I J Z f->So W J J.hd->As J a->RL t J->Q (.str "") f)
 (qs:∀f h p,Mem I (t.hq h p) Z f->So W (t.hq h p) t.hd->(∀v:Int,1<=v->v<=t.n->t.aa v≠0)->(∀x∈a,t.val x=1)->Q (.str "sat") f)
 (qu:∀f J lit,Mem I J Z f->si W lit t J->(∀x∈J.fd,x∈a)->Q (.str "unsat") f):aA (k+9) .HH [me I,.ref p] A Q:=by
 have b:=S.1.1;haveI t5:=b.1;have m:=S.1.3;haveI l2:=aa.4;haveI b5:=b.2;have gb:(Zl a).length<=bf:=B cj (aV g3 (bt rfl));have I1:∀l:aH,l .X=some (me I)->Ev (aA (k+8)) l A (.aZ (.var .X) .aO .pD []) (.int t.aK.length):=λl h=>gA M (O h) bb aX (wR M b);haveI afc:Ev (aA (k+8)) ((aH.set (λY=>none) .X (me I)).set .lY (.ref p)) A (.b1 .len (.var .lY)) (.int a.length):=by
  haveI:=oG (C:=aA (k+8)) (O rfl:Ev _ ((aH.set (λY=>none) .X (me I)).set .lY (.ref p)) _ (.var .lY) (.ref p)) (M.3 _ _ hp) gb;rw[cj]at this;exact this
 refine⟨_,rfl,bL (eP (I1 _ rfl) afc rfl) (λz=>?_) λz=>c7 ?_⟩
 .have z:=g9.mp (dQ z);have d:=dZ z;generalize a[t.aK.length]=x at d;have xg:=jq d;have r:=lg x xg;refine dG (uD (O rfl) (I1 _ rfl) (M.3 _ _ hp) gb (mA (fE _) (by refine B cj ?_;lia)) (by simp only[Int.toNat_natCast];exact(A1 z).trans (aP (λo=>some (V.int o)) (dH ((dZ z).symm.trans d))))) ?_
  have vx:∀A,Mem I t Z A->Ev (aA (k+8)) (((aH.set (λY=>none) .X (me I)).set .lY (.ref p)).set .lit (.int x)) A (.aZ (.var .X) .aO .ic [.var .lit]) (.int (t.val x)):=λA M=>gA M (O rfl) bb (aI (O rfl) aX) (qL M t5 r);refine bL (di (c:=decide (t.val x= -1)) (vx A M) eG (by cases decide (t.val x= -1)<;>rfl)) (λy=>?_) λy=>c7 ?_
  .refine eX M (O rfl) bb (aI (O rfl) aX) (Wi M S wo r (dQ y) rh n0 sl λA J M F=>cI n_ (qu A J x M F λu hu=>?_));refine Or.elim (F.5 u hu) (λe=>?_) (λacO=>az acO λi acP=>br acP λE e2 Y=>?_)
   .exact B e xg
   .exact aa.2 i u E e2 (by have:=(m.6 i u E).2.1;lia)
  .haveI v1:=gZ y;haveI G:t.aK.length<=8:=by lia
   haveI w:=S.eU hd G;refine eX M (O rfl) bb aX (O7 M b λA M=>?_);have M:Mem I t.eU Z A:=M;have jW:=t5;have FV:=r;haveI G_:Ev (aA (k+8)) (((aH.set (λY=>none) .X (me I)).set .lY (.ref p)).set .lit (.int x)) A (.aZ (.var .X) .aO .ic [.var .lit]) (.int (t.val x)):=gA M (O rfl) bb (aI (O rfl) aX) (qL (t:=t.eU) M jW FV);refine bL (di (c:=decide (t.val x=0)) G_ eG (by cases decide (t.val x=0)<;>rfl)) (λy=>?_) λy=>c7 ?_
   .have v0:=dQ y;refine eX M (O rfl) bb (aI (O rfl) (aI eG aX)) (wY M w.1.1 FV λA M=>c7 (cI n_ (qn A _ M (w.cG FV v0 OO) (aa.cG m lg v0 r (.inl d)) ⟨rfl,rfl,rfl,rfl,rfl,rfl,rfl,rfl,rfl,rfl,rfl,cx ..,I4 m v0 r G⟩)))
   .have v0:=gZ y;exact cI n_ (qn A _ M w (aa.eU m d (((m.G6 r).resolve_left v0).resolve_right v1) r) ⟨rfl,rfl,rfl,rfl,rfl,rfl,rfl,rfl,rfl,rfl,rfl,cx ..,dR _⟩)
 .have z:a.length<=t.aK.length:=by haveI:=gZ z;exact Int.ofNat_le.mp (Int.not_lt.mp this)
  have hv:∀l:aH,l .X=some (me I)->Ev (aA (k+8)) l A (.aC (.var .X) .heap) (fU I):=λl h=>fG M (O h) rfl bb rfl;refine oX M (hv _ rfl) fB (aI (fG M (O rfl) rfl bb rfl) aX) (ahj M S.1.7 λA L pl x M hq d hh=>?_);refine bL (di (c:=decide (x=0)) (O rfl) a8 (by cases decide (x=0)<;>rfl)) (λy=>?_) λy=>c7 ?_
  .haveI y:=dQ y;subst y;haveI e:=(d.resolve_right λh=>absurd h.1 (by decide)).2
   have e:=e.symm;subst e;have al:∀v:Int,1<=v->v<=t.n->t.aa v≠0:=λv v1 v2 e=>by
    haveI:=(hh v e (S.1.8 v v1 v2 e)).resolve_right (by lia)
    haveI:=hq.3 v (by lia) v2 this
    exact nn this
   exact GK M (O rfl) bb aX (R9 (qs A _ _ M (S.hq hq λv v1 v2 e=>absurd e (al v v1 v2)) al λx d=>by
    obtain⟨j,hj,e⟩:=List.mem_iff_getElem.mp d;exact(aa.1 j x (by lia) (by refine B (dZ hj) ?_;exact B e rfl)).1))
  .have y:=gZ y;have hZ:=d.resolve_left λh=>y h.1;have x1:=hZ.1;have x2:=hZ.2.1;have x0:=hZ.2.2;have G:t.aK.length<=8:=by lia
   have w:=S.eU hd G;have s:=qA x1 x2;refine kA M (dz (bY M rfl rfl rfl) a8 rfl trivial) (O rfl) bb UI rfl λA M=>?_;have bh:Bd ((t.hq L pl).wO (t.dc+1)):=⟨b.1,b.2,b.3,b.4,b.5,b.6⟩;refine eX M (O rfl) bb aX (O7 M bh λA M=>?_);haveI jW:=t5;haveI ix:In ((t.hq L pl).wO (t.dc+1)).eU x:=⟨by lia,x2⟩
   refine gn λkG=>?_;obtain⟨l,N,al,vl,el⟩:∃l,a9 t l/\U l=x/\t.val l=0/\Ev (aA (k+8)) (((aH.set (λY=>none) .X (me I)).set .lY (.ref p)).set .var (.int x)) A (.ite (.eq false (.aQ (.aC (.var .X) .rS) (.var .var)) (.dO "TRUE" 1)) (.var .var) (.neg (.var .var))) (.int l):=by
    haveI E:Ev (aA (k+8)) (((aH.set (λY=>none) .X (me I)).set .lY (.ref p)).set .var (.int x)) A (.eq false (.aQ (.aC (.var .X) .rS) (.var .var)) (.dO "TRUE" 1)) (.bool (decide (t.P x=1))):=di (eF (t:=((t.hq L pl).wO (t.dc+1)).eU) M (bY M rfl rfl rfl) (O rfl) rfl jW rfl ix) eG (by show(decide (t.P x=1) !=false)=_;cases decide (t.P x=1)<;>rfl)
    refine dx (t.P x=1) (λq=>?_) λq=>?_
    .exact⟨x,s.1,s.2.1,s.2.2.trans x0,qc E (λY=>O rfl) λh=>by rw[cO q]at h;exact nt h⟩
    .exact⟨-x,s.1.n,dJ.trans s.2.1,by rw[kX s.1.1,s.2.2,x0];rfl,qc E (λh=>by rw[dp q]at h;exact nf h) λY=>ig (O rfl) rfl⟩
   refine kG ?_;haveI S3:=((w.cG N vl OO).hq hq λv v1 v2 e=>by
    haveI e:aW t.aa (U l) (if 0<l then 1 else-1) v=0:=e
    rcases cY (v=U l)with q|q
    .simp only[q,cU]at e;split at e<;>exact absurd e (by decide)
    .rw[b7 q]at e;exact(hh v e (S.1.8 v v1 v2 e)).resolve_right λg=>q (g.trans al.symm)).iZ (cf:=t.cf) (dc:=t.dc+1) (es:=t.es) (fa:=t.fa) (fd:=t.fd) (ok:=t.ok)
   haveI R:=aa.cG m lg vl N (.inr z);haveI d3:=I4 m vl N G;refine eX M (O rfl) bb (aI el (aI eG aX)) (wY (t:=((t.hq L pl).wO (t.dc+1)).eU) M ⟨b.1,b.2,w.1.1.3,b.4,b.5,b.6⟩ N λA M=>cI n_ (qn A _ M S3 ⟨R.1,R.2,R.3,R.4⟩ ⟨rfl,rfl,rfl,rfl,rfl,rfl,rfl,rfl,rfl,rfl,rfl,cx ..,d3⟩))
def CY(W:(Int->Prop)->Prop)(t J:T):Prop:=Q6
 (gQ W J)
 (J.n=t.n)
 (J.pf=t.pf)
 (J.m<=t.m+100000)
 (J.ps.length+t.rt<=t.ps.length+J.rt+100001)
 (J.ok=true->t.ok=true/\Mc t J)
def RM(W:(Int->Prop)->Prop)(a:List Int)(t J:T):Prop:=Q5
 (CY W t J)
 (J.ok=true)
 (∀v:Int,1<=v->v<=J.n->J.aa v≠0)
 (∀c,Cn J c->∃x∈J.cl c,J.val x=1)
 (∀x∈a,J.val x=1)
def HK(W:(Int->Prop)->Prop)(a:List Int)(t J:T):Prop:=Q6
 (CY W t J)
 (∀x∈J.fd,x∈a)
 (∀h,W h->∃x∈J.fd,¬h x)
 (J.fd.length<=5)
 ((t.pf=false\/∃x∈J.fd,-x∈J.fd)->J.fa=none)
 (t.pf=true->(∀x∈J.fd,-x∉J.fd)->∃s,J.fa=some s/\Sn J s/\Td (J.cs s)/\∀x,x∈J.cs s↔-x∈J.fd)
def Lp(W:(Int->Prop)->Prop)(a:List Int)(t0 t:T):Prop:=yZ
 (gQ W t)
 (t.ok=true)
 (t0.ok=true)
 (t.n=t0.n)
 (t.pf=t0.pf)
 (t.fd=[])
 (t.fa=none)
 (Mc t0 t)
 (As t a)
 (t.m+t.dg<=t0.m+t0.dg)
 (t.ps.length+t0.rt+t.dg<=t0.ps.length+t.rt+t0.dg)
def Lf(W:(Int->Prop)->Prop)(t0 t:T):Prop:=Q7
 (gQ W t)
 (t.ok=false)
 (t.n=t0.n)
 (t.pf=t0.pf)
 (t.fd=[])
 (t.m<=t0.m+t0.dg)
 (t.ps.length+t0.rt<=t0.ps.length+t.rt+t0.dg+1)
theorem gQ.ff(S:gQ W t):gQ W ((t.oJ x).rg y):=
 ⟨λf=>(S.1 f).iZ,λf=>⟨(S.2 f).1.iZ,(S.2 f).2⟩,S.3,S.4,S.5⟩
theorem Vg(a:cB t)(b:t.aK.length<=9):t.dg<100000:=zQ (a.FU b)
theorem So.dM(S:So W t t.hd)(ok:t.ok=true)(a:t.pf=false->∀c,t.st c=none):gQ W t:=
 haveI no:t.ok=false->False:=λf=>by replace f:=ok▸f;exact nt f
 ⟨λY=>S,λf=>(no f).elim,λf=>(no f).elim,λf=>(no f).elim,a⟩
theorem si.so(S:So W t h)(F:si W lit t J):So W J h:=by
 refine az F.1 λb a=>aU a λu e=>?_;haveI P:=F.2;haveI aB:=F.3;rw[e]at P aB⊢;haveI c:t.pf=true->ek b:=λf=>haveI P:=P (u.f.2.2.2.2.2.2.2.2.2.trans f);⟨P.1,P.2,P.3,P.4,P.5,P.6,P.7,P.8⟩;exact(S.uq u c ⟨aB.1,aB.2⟩).iZ
theorem si.f(F:si W lit t J):J.n=t.n/\J.m=t.m/\J.pf=t.pf/\J.ok=t.ok/\J.st=t.st/\J.cl=t.cl/\J.hd=t.hd/\J.aK=t.aK:=by
 refine gn λc=>az F.1 λg a=>aU a λb e=>?_;clear a;refine gz b λY Y Y Y d=>?_;try clear b
 subst d;exact c<|B e<|(o8 rfl rfl rfl rfl rfl rfl rfl rfl)
theorem As.ahG(S:So W t h)(z:t.aK=[]):As t l:=by
 refine⟨λj x g=>(by rw[z]at g;exact absurd g (Nat.not_lt_zero _)),λi x k hr=>?_,λj d h=>(by replace h:=z▸h;exact nn h),B z (fw _)⟩
 refine Or.elim (S.1.5.1 i x k) (λa=>aU a λY b=>az b λj c=>aU c λY e=>?_) (λf=>aU f λe Y=>?_)
 .replace e:=z▸e;exact nn e
 .exact absurd hr (by have:=e.1;lia)
theorem Mc.gX:Mc t t:=λY h=>⟨h,λY=>Iff.rfl⟩
theorem aiC(M:Mem I t Z A)(ha:Ev C l A a v)(h:Ev C l A b w)(d:∀A,Ev C l A o (me I))(e:eZ I t t1 (.at .aO) (.cM .aO (gD (kv I t .aO) n v)))(f:eZ I t1 i (.at .aO) (.cM .aO (gD (kv I t1 .aO) m w)))(j:Cl.aO.has n=true)(hm:Cl.aO.has m=true)(k:∀g,Mem I i Z g->Ss C r l g Q):Ss C (.tK o n m a b::r) l A Q:=
 haveI c:=M.set (.at .aO) (qx (b:=t.pf) bb) e.1 e.2
 ha _ (h _ (d _ _ (fh _ .aO _ _ (ee rfl ((M.ob .aO bb).1) ((M.ob .aO bb).2) (bt rfl) j (d _ _ (fh _ .aO _ _ (ee rfl ((c.ob .aO bb).1) ((c.ob .aO bb).2) (bt rfl) hm (k _ (c.set (.at .aO) (qx (b:=t1.pf) bb) f.1 f.2)))))))))
theorem ain(M:Mem I t Z A)(S:gQ W t)(wo:Wo W)(g3:gv.length<=3)(lg:∀x∈gv,a9 t x)(hp:Z p=some (.list (Zl gv)))(sm:t.m+100001<12000000)(sl:t.pf=true->(t.ps.length:Int)+100001<=14000000+t.rt)
 (qs:∀af bD J,hJ I bD->Mem bD J Z af->RM W gv t J->Q (.str "sat") af)
 (qu:∀af bD J,hJ I bD->Mem bD J Z af->HK W gv t J->Q (.str "unsat") af):aA (k+10) .HG [me I,.ref p] A Q:=by
 have main:∀A fM t1,hJ I fM->Mem fM t1 Z A->gQ W t1->t1.aK=[]->Mc t t1->t1.n=t.n->t1.m=t.m->t1.pf=t.pf->t1.ps=t.ps->t1.rt=t.rt->t1.ok=t.ok->
  Ss (aA (k+9)) (Dh.drop 1) ((aH.set (λY=>none) .X (me I)).set .lY (.ref p)) A λfl Y A=>Q fl.val A:=by
  intro A fM t1 o1 M S1 z1 By en em ep es er eo;have N:∀{bD:bT->Nat} {l:aH},hJ I bD->l .X=some (me I)->l .X=some (me bD):=λo h=>h.trans (aP (λp=>some (V.ref p)) (o .aO).symm);refine aiC M (ju aX) ki (λA=>O (N o1 rfl)) (zG (x:=[])) (uf (x:=none)) rfl rfl λA M=>dG (fG M (O (N o1 rfl)) rfl bb rfl) ?_;haveI S2:=S1.ff (x:=[]) (y:=none);generalize e0:(t1.oJ []).rg none=t0 at M S2;haveI f0:t0.n=t.n/\t0.m=t.m/\t0.pf=t.pf/\t0.ps=t.ps/\t0.rt=t.rt/\t0.aK=[]/\t0.fd=[]/\t0.fa=none/\Mc t t0/\t0.ok=t.ok:=aT e0 ((yV en em ep es er z1 rfl rfl By eo));refine yW f0 λn0 m0 vv BN BX QR JR rh OU Ge=>?_;try clear f0
  have aj3:=Vg S2.sb.3 S2.sb.1.3;have Bl:∀{i:T},i.n=t0.n->∀x∈gv,a9 i x:=λe x G=>by haveI:=lg x G;unfold a9 at this⊢;exact e▸n0▸this
  have T3:∀A eO i l,hJ I eO->Mem eO i Z A->Lf W t0 i->l .X=some (me I)->Ss (aA (k+9)) (Dh.drop 4) l A λfl Y A=>Q fl.val A:=by
   intro A eO i l o M ae h;refine kA M (fG M (O (N o h)) rfl bb rfl) (O (N o h)) bb uf rfl λA M=>?_;have r:=ae.1.ff (x:=i.fd) (y:=i.es);haveI st:=(ae.1.2 ae.2).2.1;refine eX M (O (N o h)) bb (aI a8 aX) (qZ M r.sb.1 r.sb.3 r.sb.7 (λY=>cI n_ (qu A eO _ o M ⟨⟨r,ae.3.trans n0,ae.4.trans vv,?_,?_,λf=>?_⟩,λx G=>?_,λw hw=>absurd hw ((ae.1.2 ae.2).2.2 w),?_,λh=>?_,λf Y=>?_⟩)) λs' A lU f g u hl pl hs=>?_)
   .show i.m<=_;haveI:=ae.6;lia
   .show i.ps.length+t.rt<=t.ps.length+i.rt+100001;haveI:=ae.7;rw[BN,BX]at this;lia
   .replace f:=ae.2▸f;exact nf f
   .replace G:=ae.5▸G;cases G
   .show i.fd.length<=5;exact B ae.5 (fw _)
   .rcases h with h|⟨x,G,_⟩
    .exact ae.1.3 ae.2 (ae.4.trans (vv.trans h))
    .replace G:=ae.5▸G;cases G
   .refine gn λkG=>az (ae.1.4 ae.2 (ae.4.trans (vv.trans f))) λs acX=>br acX λs1 s2 s3=>kG<|(cR s (cg s1 s2 (by show Td (i.cs s);exact B s3 (⟨λx G=>(nomatch G),.nil⟩)) λx=>?_))
    show x∈i.cs s↔-x∈i.fd;exact B s3<|B ae.5<|⟨λh=>(nomatch h),λh=>nomatch h⟩
   .replace hs:=st▸hs;exact nn hs
  refine pY (λm l A=>∃eO i,hJ I eO/\Mem eO i Z A/\l .X=some (me I)/\l .lY=some (.ref p)/\((Lp W gv t0 i/\m+i.aK.length=10*i.dg+10)\/Lf W t0 i)) (10*t0.dg+10) (cE fM t0 (e_ o1 M rfl rfl ?_)) ?_
  .cases ok:t0.ok with
   |true=>exact .inl ⟨⟨S2,ok,ok,rfl,rfl,JR,rh,.gX,As.ahG (S2.1 ok) QR,dR _,g8 _⟩,by rw[QR];rfl⟩
   |false=>exact .inr ⟨S2,ok,rfl,rfl,JR,jK _ _,by lia⟩
  intro m l A Nj R hR P p1 Y p3;refine gn λkG=>cF Nj λeO i acY=>eY acY λo M h1 h2 ae=>kG ?_;try clear Nj
  rcases ae with⟨ae,hm⟩|ae
  .have ok:=ae.2;have S:=ae.1.1 ok;haveI aim:Ev (aA (k+9)) l A (.aC (.var .X) .nK) (.bool true):=by
    haveI:Ev (aA (k+9)) l A (.aC (.var .X) .nK) (.bool i.ok):=fG M (O (N o h1)) rfl bb rfl;rw[ok]at this;exact this
   refine mR aim (λY=>?_) nt;refine oX M (O (N o h1)) bb aX (ahk M ⟨S.1.3,S.1.4,S.1.5,S.1.6,S.2,S.1.1⟩ S.3 λA lU t3 res h3 M a=>?_);have o3:=λc=>(h3 (.ob c) (λY h=>nomatch h)).trans (o c)
   have pg:t3.n=i.n/\t3.m=i.m/\t3.ok=i.ok/\t3.pf=i.pf/\t3.ps=i.ps/\t3.rt=i.rt/\t3.st=i.st/\t3.fd=i.fd/\t3.fa=i.fa:=az a.1 λs e=>e▸(CF rfl rfl rfl rfl rfl rfl rfl rfl rfl);have pn:=pg.1;have pm:=pg.2.1;have PN:=pg.2.2.1;have tF:=pg.2.2.2.1;have vz:=pg.2.2.2.2.1;have vA:=pg.2.2.2.2.2.1;haveI ahm:=pg.2.2.2.2.2.2.1;have Gn:=pg.2.2.2.2.2.2.2.1;have Gm:=pg.2.2.2.2.2.2.2.2;have Bz:=ae.8.trans λc v=>⟨by unfold Cn at v⊢;rw[pm];exact v,λx=>(a.2.3 c v).mem_iff⟩
   have yr:t3.pf=false->∀c,t3.st c=none:=λf c=>by rw[ahm];exact ae.1.5 (tF▸f) c
   have ms:=ae.10;haveI ahq:=ae.11;have B1:t3.pf=true->t3.ps.length+1<=14000000+t3.rt:=λf=>by
    haveI:=sl (aT vv<|aT ae.5<|aT tF<|f);rw[BN,BX]at ahq;rw[vz,vA];lia
   have akw:=S.1.1.3;haveI lf:∀{x:Int},res=x->l .X=some (me I):=λY=>h1;rcases a.5 with⟨rfl,V⟩|⟨v,hf,h',V,H⟩
   .have H3:kE t3 t3.hd:=by
     obtain⟨y,hy⟩:=a.2.2;refine⟨by rw[a.3];exact fE _,by refine a.3▸g8 _,λj d e=>?_⟩
     have:=S.3.3 j d (a.4▸e);haveI:=S.3.2;rw[a.3,hy,cx];lia
    have r:=S.pr a V H3;have U_:t3.dg<=i.dg:=by
     refine gn λkG=>?_;obtain⟨y,hy⟩:=OP S.1.3 a;refine kG ?_;haveI l9:=r.1.3.FU r.1.1.3;unfold T.dg;rw[hy]at l9⊢;exact zP _ λb hb=>l9 b (iW _ hb)
    have A3:=ae.9.pr S.1.3 r.1.3 (Bl ae.4) a;have tB:=PN.trans ok;have ae1:∀{l:aH},l .X=some (me I)->l .X=some (me lU):=λh=>N o3 h;have jH:=ae1 h1;refine bL (di (O rfl) eG rfl) nf λY=>bL (b:=false&&true) (gT (dC (eP (fG M (O jH) rfl bb rfl) a8 rfl) nf)) nf λY=>bL (oH (gA M (O jH) bb aX λQ q=>ahe q) rfl) (λY=>?_) nt;have seq:∀{l:aH} {A:H} {x y:String} {ne:Bool},l .mO=some (.str x)->Ev (aA (k+9)) l A (.eq ne (.var .mO) (.str y)) (.bool (decide (x=y) !=ne)):=λh=>uB (O h) n_ rfl;have D5:t3.m<=t.m+100000:=by rw[pm];lia
    refine oX M (O jH) bb (aI (O h2) aX) (aiS M r wo a.3 A3 g3 (Bl (pn.trans ae.4)) hp (Gm.trans ae.7) yr B1 (λA E M L A4 st=>?_) (λA hl pl M L al ga=>?_) λA E lit M F fg=>?_)
    .refine bL (seq rfl) (λz=>absurd z (by decide)) λY=>c7 (bL (seq rfl) (λz=>absurd z (by decide)) λY=>c_ (c_ (c_ (c_ (p1 _ _ ?_).1))))
     have s4:=L.1.1.3;haveI ds:=st.13;haveI ss:=st.12;haveI s3:t3.aK.length=i.aK.length:=a.4▸rfl;exact hR (10*E.dg+10-E.aK.length) _ _ (by lia) (cE lU E (e_ o3 M h1 h2 (.inl ⟨⟨L.dM (st.3.trans tB) λf c=>by rw[st.10];exact yr (st.4▸f) c,st.3.trans tB,ae.3,st.1.trans (pn.trans ae.4),st.4.trans (tF.trans ae.5),st.7.trans (Gn.trans ae.6),st.6.trans (Gm.trans ae.7),Bz.trans λc v=>⟨by unfold Cn at v⊢;rw[st.2];exact v,λx=>by rw[st.11]⟩,A4,by refine st.2▸?_;refine pm▸?_;lia,by refine st.8▸st.9▸vz▸vA▸?_;lia⟩,by lia⟩)))
    .refine bL (seq rfl) (λz=>absurd z (by decide)) λY=>c7 (bL (seq rfl) (λY=>cI (O rfl) (p3 _ _ _ (qs A lU _ o3 M ?_))) λz=>absurd z (by decide))
     refine⟨⟨L.dM tB yr,pn.trans (ae.4.trans n0),tF.trans (ae.5.trans vv),D5,?_,λY=>⟨Ge.symm.trans ae.3,OU.trans Bz⟩⟩,tB,al,λc v=>r.ahS a.3 al v,ga⟩;refine vz▸vA▸BN▸BX▸?_;lia
    .have g1:=F.f.1;have g2:=F.f.2.1;have D_:=F.f.2.2.1;haveI g4:=F.f.2.2.2.1;have g5:=F.f.2.2.2.2.1;have g6:=F.f.2.2.2.2.2.1;have g7:=F.f.2.2.2.2.2.2.1;have L:=F.so r;replace L:=g7.symm▸L;have BH:=g4.trans tB;have T4:=L.dM BH λf c=>by rw[g5];exact yr (D_▸f) c
     haveI fq:=F.4;rw[vz,vA]at fq;have q4:E.ps.length+t.rt<=t.ps.length+E.rt+100001:=by refine B BN<|aT BX ?_;lia
     have OV:=OU.trans (Bz.trans λc v=>⟨by unfold Cn at v⊢;rw[g2];exact v,λx=>by rw[g6]⟩)
     have vw:=tF.trans (ae.5.trans vv);have bZ:∀A vR t5,hJ I vR->Mem vR t5 Z A->HK W gv t t5->Ss (aA (k+9)) [.ite (.eq true (.var .mO) (.str "")) [.ret (.var .mO)] []] ((l.set .gj (.int (-1))).set .mO (.str "unsat")) A (Nx (aA (k+9)) [] (Nx (aA (k+9)) [] (Nx (aA (k+9)) [] P))):=λA vR t5 o M mN=>bL (seq rfl) (λY=>cI (O rfl) (p3 _ _ _ (qu A vR t5 o M mN))) λz=>absurd z (by decide)
     refine bL (seq rfl) (λY=>eX M (O jH) bb (aI a8 aX) (qZ M L.1.1 L.1.3 L.1.7 (λY=>c7 (bZ A lU E o3 M ⟨⟨T4,g1.trans (pn.trans (ae.4.trans n0)),D_.trans vw,g2.symm▸D5,q4,λY=>⟨Ge.symm.trans ae.3,OV⟩⟩,fg,F.6,F.7.1,λh=>F.8 (h.imp (λh=>vw.trans h) id),λf=>F.9 (vw.trans f)⟩)) λs' A vR f g u hl pl hs nJ M C=>c7 (bZ A vR _ (λc=>(nJ (.ob c) (λh=>nomatch h) λh=>nomatch h).trans (o3 c)) M ⟨⟨T4.dh hs C,g1.trans (pn.trans (ae.4.trans n0)),D_.trans vw,by show E.m<=_;rw[g2];exact D5,q4,λY=>⟨Ge.symm.trans ae.3,OV⟩⟩,fg,F.6,F.7.1,λh=>F.8 (h.imp (λh=>vw.trans h) id),λf=>F.9 (vw.trans f)⟩))) λz=>absurd z (by decide)
   .have r:=S.pr a V H;have U_:t3.dg<=i.dg:=by
     obtain⟨y,hy⟩:=OP S.1.3 a;haveI l9:=r.1.3.FU r.1.1.3;unfold T.dg;rw[hy]at l9⊢;exact zP _ λb hb=>l9 b (iW _ hb)
    have nr:decide (res= -1)=false:=dp λe=>absurd (e▸v.1) (by decide)
    refine bL (di (O rfl) eG (by refine nr▸?_;rfl)) (λY=>?_) nt
    refine eX M (O (N o3 h1)) bb (aI (O rfl) aX) (ado M r wo (λj d e=>?_) v hf (by refine pm▸?_;lia) B1 yr (λA yP E o4 M F=>c_ (p1 _ _ ?_).1) λA yP E o4 M F=>c_ (p1 _ _ ?_).1)
    .rw[a.3];have:=S.3.3 j d (a.4▸e);haveI:=S.3.2;obtain⟨y,hy⟩:=a.2.2;rw[hy,cx];lia
    .haveI fq:=F.7;rw[vz,vA]at fq;exact hR 0 _ _ (by lia) (cE yP E (e_ (λc=>(o4 c).trans (o3 c)) M h1 h2 (.inr ⟨⟨λf=>(by replace f:=F.5▸f;exact nf f),λY=>aS F.1 F.11 F.12,λY f=>F.9 (F.4.symm.trans f),λY f=>F.10 (F.4.symm.trans f),F.8⟩,F.5,F.2.trans (pn.trans ae.4),F.4.trans (tF.trans ae.5),F.6.trans (Gn.trans ae.6),by refine F.3▸?_;refine pm▸?_;lia,by lia⟩)))
    .have aj2:=afB r.1.3 F.1.1.3 F.1.1.1.2 r.1.1.3 F;have fq:=F.9;have fm:=F.3;have s4:=F.1.1.1.3;replace fq:=vz▸fq;replace fq:=vA▸fq;rw[pm]at fm;have BH:=F.4.trans (PN.trans ok);exact hR (10*E.dg+10-E.aK.length) _ _ (by lia) (cE yP E (e_ (λc=>(o4 c).trans (o3 c)) M h1 h2 (.inl ⟨⟨F.1.dM BH F.10,BH,ae.3,F.2.trans (pn.trans ae.4),F.5.trans (tF.trans ae.5),F.8.trans (Gn.trans ae.6),F.7.trans (Gm.trans ae.7),Bz.trans F.14,(ae.9.pr S.1.3 r.1.3 (Bl ae.4) a).ha r.1.3 (Bl (pn.trans ae.4)) F,by lia,by lia⟩,by lia⟩)))
  .haveI afZ:Ev (aA (k+9)) l A (.aC (.var .X) .nK) (.bool false):=by
    haveI:Ev (aA (k+9)) l A (.aC (.var .X) .nK) (.bool i.ok):=fG M (O (N o h1)) rfl bb rfl;rw[ae.2]at this;exact this
   exact mR afZ nf λY=>T3 A eO i l o M ae h1
 refine⟨_,rfl,eX M (O rfl) bb (aI a8 aX) (qZ M S.sb.1 S.sb.3 S.sb.7 (λz=>?_) λs' A fM f g' u hl pl hs nJ M C=>?_)⟩
 .exact main A I t (λY=>rfl) M S (List.length_eq_zero_iff.mp (Nat.le_zero.mp z)) .gX rfl rfl rfl rfl rfl rfl
 .exact main A fM _ (λc=>nJ _ (λh=>nomatch h) λh=>nomatch h) M (S.dh hs C) rfl .gX rfl rfl rfl rfl rfl rfl
theorem Ji(M:Mem I t Z A)(h:fX C l A e E)(c:E.length<=bf)(k:∀b,Mem I t Z b->R (.int E.length) b):aB C (.b1 .len e) l A R:=
 h _ λa ha=>⟨E,H.bC,c,k _ ((M.dy (.inl ha)).fD λy o e=>B (H.a6 (Sub.ne e (M.dP ha))) e)⟩
def EL(C:Cx)(b:a7)(ne:Bool)(i:Int)(l:aH)(Q:Fl->aH->H->Prop)(v:V)(A:H):Prop:=aB C b l A λw A=>∃r,V.eqv v w=some r/\Q (.ret (.bool (r !=ne))) l A
theorem Vt(h:aB C a l A λv A=>EL C b ne 0 l Q v A):Ss C (.ret (.eq ne a b)::r) l A Q:=h
theorem VH(h:Ev C l A b (.int j))(e:(decide (i=j) !=ne)=c)(k:Q (.ret (.bool c)) l A):EL C b ne 0 l Q (.int i) A:=h _ ⟨_,rfl,B e k⟩
noncomputable def x6(p:Int->Bool):V->Bool|.int i=>p i|_=>false
theorem aez:(Zl l).filter (x6 p)=Zl (l.filter p):=by
 unfold Zl;refine List.filter_map.trans ?_;rfl
theorem Ws{l:List Int}(d:l.Nodup)(c:Int):(l.filter λx=>decide (x=c)).length=if c∈l then 1 else 0:=by
 refine aT d.count<|B List.count_eq_length_filter ?_;rfl
theorem gJ.gi(g:gJ t t.ws)(K:dY t)(j:Cn t c)(p:1< (t.cl c).length)(d:(t.cl c)[i]? =some x):(((t.ws (bJ x)).filter λy=>decide (y=c)).length:Int)=if i<2 then 1 else 0:=by
 rw[Ws (g.3 _)]
 match e:t.cl c,p with
 |a::b::r,_=>
  replace d:=e▸d;haveI w:=g.2 c a b r j e;haveI f:=λy q=>(K.2 c y j q).1.1
  match i,d with
  |0,d=>injection d with d;subst d;refine B (bA w.1) ?_;rfl
  |1,d=>injection d with d;subst d;refine B (bA w.2) ?_;rfl
  |i+2,d=>
   haveI d:r[i]? =some x:=d;haveI k:=jq d;haveI nd:=K.1 c j;rw[e]at nd f;haveI m:=jb.mp nd;haveI s:=jb.mp m.2;rw[bx λh=>?_]
   .refine B (bx (by lia)) ?_;rfl
   .refine aU (g.1 _ _ h) λY n=>d7 n λu v r' o=>aU o λl h=>?_;clear n o;replace l:=e▸l;cases l;haveI x0:=f x (cP _ (cP _ k));rcases h with h|h
    .exact m.1 (cP _ ((rU h (f a (bE ..)) x0)▸k))
    .exact s.1 ((rU h (f b (cP _ (bE ..))) x0)▸k)
theorem cB.gi(a:cB t):((cS (t.n+1) λi=>.int (t.aa i)).filter (x6 λx=>decide (x≠0))).length=t.tr.length:=by
 haveI e:((cS (t.n+1) λi=>.int (t.aa i)).filter (x6 λx=>decide (x≠0)))=((List.range (t.n+1)).filter λi=>decide (t.aa (i:Nat)≠0)).map λi=>.int (t.aa i):=by
  unfold cS;refine List.filter_map.trans ?_;rfl
 rw[e,b9];haveI b:(((List.range (t.n+1)).filter λi=>decide (t.aa (i:Nat)≠0)).map λ(i:Nat)=>(i:Int)).Nodup:=rP (List.nodup_range.filter _) λx Y y Y e=>Int.ofNat.inj e;haveI o:(t.tr.map U).Nodup:=by
  refine List.pairwise_iff_getElem.mpr λi j hi d q e=>?_;simp only[List.getElem_map,List.getElem_map]at e;rw[b9]at hi d;haveI a1:=(a.3 i _ (dZ hi)).2.2;haveI a2:=(a.3 j _ (dZ d)).2.2;rw[e]at a1;lia
 haveI p:=(List.perm_ext_iff_of_nodup b o).mpr λv=>by
  rw[cW,cW];constructor
  .intro f;refine az f λi g=>aU g λhi r=>?_;clear g;try clear f
   subst r;haveI h:=dU.mp hi;haveI s:=h.1;haveI u:=h.2;refine az (a.v ⟨fE _,by have:=List.mem_range.mp s;lia⟩ (dQ u)) λl c=>br c λw z Y=>?_
   exact⟨l,jq w,z⟩
  .rintro⟨x,A,rfl⟩;obtain⟨i,hi,e⟩:=List.mem_iff_getElem.mp A;haveI k:=a.3 i x (aT e (dZ hi));haveI m:=k.1;haveI C:=k.2.1;refine⟨x.natAbs,dU.mpr ⟨List.mem_range.mpr (by have:=m.U.2;unfold U at this;lia),cO (ni a.tv m (by rw[C];decide))⟩,rfl⟩
 haveI:=p.length_eq;rw[b9,b9]at this;exact this
theorem ait(M:Mem I t Z A)(S:Sb W t)(q:∀p,Mem I t Z p->Q (.bool true) p):aA (k+2) .HN [me I] A Q:=by
 have b:=S.1;have L:=b.1;haveI mb:=b.bm;haveI ag:=S.3;haveI jF:=b.jF;haveI FE:Ev (aA (k+1)) (aH.set (λY=>none) .X (me I)) A (.b1 .len (.aC (.var .X) .fS)) (.int t.m):=by
  haveI:=oG (C:=aA (k+1)) (fG M (O rfl) rfl bb rfl:Ev _ (aH.set (λY=>none) .X (me I)) _ (.aC (.var .X) .fS) (.ref (I .cl))) (M.1 .cl _ rfl) (B fJ (c9 mb));rwa[fJ]at this
 refine⟨_,rfl,rZ (λi l A=>0<=i/\Mem I t Z A/\l .X=some (me I)) FE (mW (c9 mb)) (aS (g8 _) M rfl) ?_ ?_⟩
 .intro c l A sZ Ki P N Y Y;refine br Ki λadu M a=>?_;try clear Ki
  have r:Cn t c:=⟨adu,sZ⟩;haveI lc:=b.5 c r.1 r.2;haveI d:=a;refine dG (mc M b (fG M (O d) rfl bb rfl) (O rfl) r) ?_;haveI len:∀{l:aH} {A:H},Mem I t Z A->l .bR=some (.ref (I (.c c)))->Ev (aA (k+1)) l A (.b1 .len (.var .bR)) (.int (t.cl c).length):=λM h=>uE M b r (O h) rfl;refine bL (gT (dC (qb (O rfl) λh=>nomatch h) λY=>dC (eP (len M rfl) a8 rfl) λY=>hO)) (λz=>?_) λY=>c_ (N _ _ (by exact(aS (by lia) M a))).1
  haveI z2:=g9.mp (dQ (ow.mp (ow.mp z).2).1);refine rZ (λi l A=>0<=i/\Mem I t Z A/\l .X=some (me I)/\l .bR=some (.ref (I (.c c)))/\l .bO=some (.int c)) (len M rfl) (mW (aV lc (by decide))) (e_ (g8 _) M a rfl rfl) ?_ λi l A Y Xa=>eI Xa λY M a Y=>c_ (N _ _ (aS (by lia) M a)).1
  intro i l A hi Kj P' tC Y Y;refine eY Kj λi0 M a h2 h3=>?_;try clear Kj
  obtain⟨j,rfl⟩:∃j:Nat,i=j:=⟨i.toNat,by lia⟩
  have hj:j< (t.cl c).length:=by lia
  haveI o:=dZ hj;generalize(t.cl c)[j]=x at o;haveI s:=(S.4.2 c x r (jq o)).1;haveI d:=a;haveI WN:=h2;haveI ew:Ev (aA (k+1)) (l.set .k (.int j)) A (.aQ (.aC (.var .X) .lN) (.call .ot [.aQ (.var .bR) (.var .k)])) (.ref (I (.w (bJ x)))):=uF M b (fG M (O d) rfl bb rfl) (nE (aI (nD M b (O WN) (O rfl) r o) aX) λQ q=>tD Q q) s;haveI wl:((Zl (t.ws (bJ x))).filter (x6 λy=>decide (y=c))).length<=bf:=aV (lP ..) (by rw[cj];exact c9 (b.zB _))
  refine gF (Ji M (qd (f:=id) ew (M.1 _ _ (ui s)) (by rw[cj];exact c9 (b.zB _)) (λv hv=>?_) λv hv Y=>O rfl) (by rw[b9];exact wl) λA M=>?_)
  .obtain⟨y,_,rfl⟩:=cW.mp hv;haveI WO:((l.set .k (.int j)).set .cC (.int y)) .bO=some (.int c):=h3;haveI:=dC (C:=aA (k+1)) (di (ne:=false) (c:=decide (y=c)) (O (x:=.cC) rfl) (O (A:=A) WO) (by cases decide (y=c)<;>rfl)) λY=>hO
   rw[Bool.and_true]at this;exact this
  .haveI cn:=S.6.gi S.4 r z2 o;rw[b9,aez,cj];haveI e1:Ev (aA (k+1)) ((l.set .k (.int j)).set .fH (.int (((t.ws (bJ x)).filter λy=>decide (y=c)).length))) A (.ite (.dw .lt (.var .k) (.int 2)) (.int 1) (.int 0)) (.int (if j<2 then 1 else 0)):=qc (eP (O rfl) a8 rfl) (λz=>B (bA (g9.mp (dQ z))) a8) λz=>B (bx λh=>gZ z (g9.mpr h)) a8
   exact bL (di (O rfl) e1 (by refine B cn ?_;refine B (cO rfl) ?_;rfl)) nf λY=>c_ (tC _ _ (by exact(e_ (by lia) M a h2 h3))).1
 .intro i l A Y YZ;refine br YZ λY M a=>?_;have OF:∀{l:aH} {A:H},Mem I t Z A->l .X=some (me I)->Ev (aA (k+1)) l A (.b1 .len (.aC (.var .X) .iU)) (.int t.tr.length):=λM h=>jt M (fG M (O h) rfl bb rfl) rfl jF rfl;refine rZ (λi l A=>0<=i/\Mem I t Z A/\l .X=some (me I)) (OF M a) (mW (aV b.2 (by decide))) (aS (g8 _) M a) ?_ ?_
  .intro i l A hi Kl P N Y Y;refine br Kl λi0 M a=>?_;try clear Kl
   obtain⟨j,rfl⟩:∃j:Nat,i=j:=⟨i.toNat,by lia⟩
   haveI o:t.tr[j]? =some (t.tr[j]'(by lia)):=dZ _
   generalize t.tr[j]'_=x at o;haveI u:=ag.3 j x o;haveI s:=u.1;haveI vx:=u.2.1;haveI sx:=u.2.2;haveI d:=a;refine dG (kh M (fG M (O d) rfl bb rfl) (O rfl) rfl jF o) ?_;haveI d:=a;have val:∀{l:aH} {y:Int} {n:Nm},l .X=some (me I)->l n=some (.int y)->a9 t y->Ev (aA (k+1)) l A (.aZ (.var .X) .aO .ic [.var n]) (.int (t.val y)):=λh g G=>gA M (O h) bb (aI (O g) aX) (qL M L G);have QB:∀{l:aH} {y:Int} {n:Nm},l .X=some (me I)->l n=some (.int y)->a9 t y->Ev (aA (k+1)) l A (.aQ (.aC (.var .X) .pX) (.b1 .abs (.var n))) (.int (t.S (U y))):=λh g G=>eF M (fG M (O h) rfl bb rfl) (fO (O g) rfl) rfl L rfl G.fu;refine bL (mU (z9 (di (val d rfl s) eG (by refine B vx ?_;rfl)) (z8 (di (QB d rfl s) (O rfl) (by refine sx▸B (cO rfl) ?_;rfl))))) nf λY=>c7 ?_
   refine dG (eF M (fG M (O d) rfl bb rfl) (fO (x:=U x) (O rfl) rfl) rfl L rfl s.fu)<|bL (di (c:=!decide (t.R (U x)= -1)) (O rfl) eG (by cases decide (t.R (U x)= -1)<;>rfl)) (λz=>?_) λY=>c_ (N _ _ (by exact(aS (by lia) M a))).1
   haveI z:t.R (U x)≠-1:=λe=>by replace z:=(cO e)▸z;exact nf z
   have u:=(S.5.1 j x o).resolve_left λh=>z h.1;have J:=u.1;have c3:=u.2.2;refine kR (mc M b (fG M (O (show(((l.set .cT (.int j)).set .lit (.int x)).set .bO (.int (t.R (U x)))) .X=some (me I)from a)) rfl bb rfl) (O rfl) J _ ?_);refine nF (λE l p=>p=A/\l .X=some (me I)/\l .lit=some (.int x)/\l .cT=some (.int j)/\∃dn,t.cl (t.R (U x))=dn++E) (M.1 _ _ (js J)) (b.nX J.1 J.2) (e_ rfl a rfl rfl (cR ([]) rfl)) (λE l p Xb=>aU Xb λe Y=>e▸M.1 _ _ (js J)) ?_ λl p Xc=>br Xc λe a Y=>c_ (N _ _ (by exact(aS (by lia) (B e M) a))).1
   intro y E l p Km P' tC Y Y;refine eY Km λY0 a h2 h3 Y1=>az Y1 λdn e=>?_;try clear Km
   subst Y0;have yc:y∈t.cl (t.R (U x)):=B e (iW _ (bE ..));haveI G:=(S.4.2 _ y J yc).1;haveI g1:=a;haveI g2:=h2;haveI g3:=h3;have nx:P' .next (l.set .d8 (.int y)) p:=(tC _ _ (by exact(e_ rfl a h2 h3 (cR (dn++[y]) (by simp only[e,iX];rfl))))).1
   rcases cY (y=x)with w|w
   .exact bL (b:=false&&true) (gT (dC (di (O rfl) (O g2) (by refine B (cO w) ?_;rfl)) nf)) nf λY=>c_ nx
   .refine aU (c3 y yc w) λd1 d2=>bL (b:=true&&(false&&true)) (gT (dC (di (O rfl) (O g2) (by refine(dp w)▸?_;rfl)) λY=>dC (mU (z9 (di (val g1 rfl G) eG (by refine B d1 ?_;rfl)) (z8 (eP (QB g1 rfl G) (O g3) (dp (Int.not_lt.mpr (Int.le_of_lt d2))))))) nf)) nf λY=>c_ nx
  .rintro i l A _ ⟨_,M,a⟩;haveI ar:((cS (t.n+1) λi=>.int (t.aa i)).filter (x6 λx=>decide (x≠0))).length<=bf:=aV (lP ..) (by rw[fJ];exact qm L)
   refine Vt (Ji M (qd (f:=id) (fG M (O a) rfl bb rfl) (M.1 .aa _ rfl) (by rw[fJ];exact qm L) (λv hv=>?_) λv hv Y=>O rfl) (by rw[b9];exact ar) λA M=>?_)
   .refine az (C9 hv) λi Nn=>br Nn λY Y ac0=>?_;clear Nn;subst ac0;haveI:=dC (C:=aA (k+1)) (di (A:=A) (ne:=true) (c:=decide (t.aa i≠0)) (O (rfl:(l.set .cC (.int (t.aa i))) .cC=some (.int (t.aa i)))) (eG (n:="UNKNOWN")) (by simp only[decide_not];cases decide (t.aa i=0)<;>rfl)) λY=>hO
    rw[Bool.and_true]at this;exact this
   .simp only[b9,ag.gi];exact VH (OF M a) (by refine B (cO rfl) ?_;rfl) (q A M)
noncomputable def T.ij(t:T):T:={t with n:=t.n+1,aa:=aW t.aa ((t.n+1:Nat)) 0,ae:=aW t.ae ((t.n+1:Nat)) 0,R:=aW t.R ((t.n+1:Nat)) (-1),S:=aW t.S ((t.n+1:Nat)) 0,P:=aW t.P ((t.n+1:Nat)) (-1),sn:=aW t.sn ((t.n+1:Nat)) false,us:=aW t.us ((t.n+1:Nat)) none,ac:=aW t.ac ((t.n+1:Nat)) 0,pl:=aW t.pl ((t.n+1:Nat)) (-1),ws:=aW (aW t.ws ((2*t.n+2:Nat)) []) ((2*t.n+2+1:Nat)) []}
noncomputable def pV:bT->Nat|.sn=>0|.us=>1|.aa=>2|.ae=>3|.R=>4|.S=>5|.P=>6|.ac=>7|.pl=>8|_=>9
noncomputable def ai6:Nat->bT|0=>.sn|1=>.us|2=>.aa|3=>.ae|4=>.R|5=>.S|6=>.P|7=>.ac|_=>.pl
theorem ag7(h:pV a=pV b)(l:pV a<9):a=b:=by
 haveI f:∀a,pV a<9->ai6 (pV a)=a:=λa l=>by cases a<;>first|rfl|exact absurd l (Nat.lt_irrefl 9)
 exact aT (f a l)<|B h<|B (f b (h▸l)) rfl
noncomputable def j3(I:bT->Nat)(t:T)(s:Nat)(wl:List V):bT->Option bN
 |.ws=>some (.list wl)
 |aD=>if pV aD<s then cont I t.ij aD else cont I t aD
noncomputable def p5(I:bT->Nat)(t:T):List V:=cS (2*t.n+2) λi=>.ref (I (.w i))
theorem U6:j3 I t 0 (p5 I t)=cont I t:=funext λaD=>by cases aD<;>rfl
theorem q8(h:s<=9):j3 I t s wl (.ob c)=cont I t (.ob c)/\j3 I t s wl (.at c)=cont I t (.at c):=⟨bx (Nat.not_lt.mpr h),bx (Nat.not_lt.mpr h)⟩
theorem wM(h:¬pV aD<s)(w:aD≠.ws):j3 I t s wl aD=cont I t aD:=by
 cases aD<;>first|exact absurd rfl w|exact bx h
theorem DI(h:pV aD<s)(w:aD≠.ws):j3 I t s wl aD=cont I t.ij aD:=by
 cases aD<;>first|exact absurd rfl w|exact bA h
theorem mT(M:cX (j3 I t s wl) I Z A)(hs:s<=9)(h:Ev C l A e (.ref (I (.ob c))))(g:kq (kv I t c) n=some w)(lv:jJ c t.pf .code≠none)(hh:c.has n=true):Ev C l A (.aC e n) w:=
 JB h ((J9 (M.1 (.ob c) _ ((q8 hs).1.trans (qx lv))) (M.1 (.at c) _ ((q8 hs).2.trans (qx lv))) hh).trans g)
theorem qH(M:cX (j3 I t s wl) I Z A)(hs:pV aD=s)(c:s<9)(g:Ev C l A o (.ref (I aD)))(ha:Ev C l A a v)(i:cont I t aD=some (.list E))(new:cont I t.ij aD=some (.list (E++[v])))(j:E.length<bf)(k:∀d,cX (j3 I t (s+1) wl) I Z d->Ss C r l d Q):Ss C (.expr (.c8 o a)::r) l A Q:=by
 haveI w:aD≠.ws:=λe=>by rw[e]at hs;rw[<-hs]at c;exact absurd c (by decide)
 haveI b:j3 I t s wl aD=some (.list E):=(wM (by lia) w).trans i
 refine g _ ⟨⟨_,rfl,E,M.1 _ _ b⟩,ha _ (cE _ _ (cg rfl (M.1 _ _ b) j (k _ (M.set aD b ((DI (by lia) w).trans new) λf h=>?_))))⟩
 rcases cY (f=.ws)with z|z
 .refine B z ?_;rfl
 .refine Or.elim (Nat.lt_trichotomy (pV f) s) (λq=>?_) (λm=>Or.elim m (λq=>?_) λq=>?_)
  .rw[DI (by lia) z,DI q z]
  .exact absurd (ag7 (q.trans hs.symm) (by lia)) h
  .rw[wM (by lia) z,wM (by lia) z]
theorem QC(M:cX (j3 I t s wl) I Z A)(d:∀Z A,cX (j3 I t s wl) I Z A->Ev C l A o (.ref (I .ws)))(e:wl.length<bf)(k:∀a b,Z a=none->cX (j3 I t s (wl++[.ref a])) I (Z.set a (.list [])) b->Ss C r l b Q):Ss C (.expr (.c8 o (.dj []))::r) l A Q:=by
 refine d _ _ M _ ⟨⟨_,rfl,wl,M.1 .ws _ rfl⟩,λa ha=>?_⟩;haveI c:=M.dy (o:=.list []) (.inl ha);exact(cE _ _ (cg rfl (c.1 .ws _ rfl) e (k a _ (M.dP ha) (c.set .ws rfl rfl λaD h=>by cases aD<;>first|exact absurd rfl h|rfl))))
set_option tactic.hygienic true in
theorem WJ(M:cX (j3 I t 9 (p5 I t++[.ref a]++[.ref b])) I ((Z.set a (.list [])).set b (.list [])) A)(na:Z a=none)(nb:(Z.set a (.list [])) b=none):Mem (j7 (j7 I ((2*t.n+2:Nat):Int) a) ((2*t.n+2+1:Nat):Int) b) t.ij Z A:=by
 have k:b≠a:=λq=>by replace nb:=q▸nb;replace nb:=H.bC▸nb;exact ns nb
 have l:((Z.set a (.list [])).set b (.list [])) a=some (.list []):=(H.a6 (cQ k)).trans H.bC;have key:∀aD o,cont (j7 (j7 I ((2*t.n+2:Nat)) a) ((2*t.n+2+1:Nat)) b) t.ij aD=some o->(aD=.w ((2*t.n+2:Nat))/\j7 (j7 I ((2*t.n+2:Nat)) a) ((2*t.n+2+1:Nat)) b aD=a/\o=.list [])\/(aD=.w ((2*t.n+2+1:Nat))/\j7 (j7 I ((2*t.n+2:Nat)) a) ((2*t.n+2+1:Nat)) b aD=b/\o=.list [])\/(j3 I t 9 (p5 I t++[.ref a]++[.ref b]) aD=some o/\j7 (j7 I ((2*t.n+2:Nat)) a) ((2*t.n+2+1:Nat)) b aD=I aD):=by
  intro aD o e;haveI g:∀j,(j7 (j7 I ((2*t.n+2:Nat)) a) ((2*t.n+2+1:Nat)) b) (.w j)=if j=((2*t.n+2+1:Nat))then b else if j=((2*t.n+2:Nat))then a else I (.w j):=λj=>rfl
  cases aD with
  |w j=>
   haveI e:(if 0<=j/\j<2*((t.n+1))+2 then some (bN.list (Zl (aW (aW t.ws ((2*t.n+2:Nat)) []) ((2*t.n+2+1:Nat)) [] j)))else none)=some o:=e
   rw[g]
   split at e
   .rename_i h
    refine dx (j=((2*t.n+2+1:Nat))) (λq=>?_) (λq=>?_)
    .refine gn λv=>?_;subst q;rw[cU]at e;injection e with e;subst e
     exact v<|.inr (.inl (aS rfl (bA rfl) rfl))
    .rw[b7 q]at e;rw[bx q];refine dx (j=((2*t.n+2:Nat))) (λi=>?_) (λi=>?_)
     .subst i;rw[cU]at e;injection e with e;subst e
      exact .inl (aS rfl (bA rfl) rfl)
     .rw[b7 i]at e;exact B ((bx i))<|.inr (.inr ⟨(bA (by lia)).trans e,rfl⟩)
   .exact nn e
  |ws=>
   refine .inr (.inr ⟨?_,rfl⟩);refine aT e<|aP (λf=>some (bN.list f)) ?_;simp only[p5,sA,sA];refine aP _ (funext λj=>?_);rw[g];unfold aW
   split
   .rfl
   .split<;>rfl
  |ob c=>cases c<;>exact .inr (.inr ⟨e,rfl⟩)
  |«at» c=>cases c<;>exact .inr (.inr ⟨e,rfl⟩)
  |_=>exact .inr (.inr ⟨e,rfl⟩)
 refine⟨λaD o e=>?_,λaD y o m e p q=>?_,λx o e=>?_,λx o aD m e p=>?_⟩
 .rcases key aD o e with⟨_,g,rfl⟩|⟨_,g,rfl⟩|⟨c,g⟩
  .exact B g (M.3 _ _ l)
  .exact B g (M.3 _ _ H.bC)
  .exact B g (M.1 _ _ c)
 .refine Or.elim (key aD o e) (λz=>br z λh g Y=>?_) (λd=>Or.elim d (λC=>br C λh g Y=>?_) λE=>aU E λc g=>?_)<;>refine Or.elim (key y m p) (λG=>br G λr s Y=>?_) (λd=>Or.elim d (λJ=>br J λr s Y=>?_) λL=>aU L λu s=>?_)<;>simp only[g,s]at q
  .exact B h<|B r rfl
  .exact absurd q (cQ k)
  .exact absurd q.symm (M.4 _ _ _ _ l u)
  .exact absurd q k
  .exact B h<|B r rfl
  .exact absurd q.symm (M.4 _ _ _ _ H.bC u)
  .exact absurd q (M.4 _ _ _ _ l c)
  .exact absurd q (M.4 _ _ _ _ H.bC c)
  .exact M.2 _ _ _ _ c u q
 .exact M.3 _ _ ((H.a6 (Sub.ne ((H.a6 (Sub.ne e na)).trans e) nb)).trans ((H.a6 (Sub.ne e na)).trans e))
 .refine Or.elim (key aD m p) (λN=>br N λY g Y=>?_) (λd=>Or.elim d (λP=>br P λY g Y=>?_) λQ=>aU Q λc g=>?_)<;>refine B g ?_
  .exact cQ (Sub.ne e na)
  .exact cQ (Sub.ne ((H.a6 (Sub.ne e na)).trans e) nb)
  .exact M.4 _ _ _ _ ((H.a6 (Sub.ne ((H.a6 (Sub.ne e na)).trans e) nb)).trans ((H.a6 (Sub.ne e na)).trans e)) c
theorem qh{t:T}{a:Type}{f:Int->a}{g:a->V}{x:a}:some (bN.list (cS (t.n+1+1) λi=>g (aW f ((t.n+1:Nat):Int) x i)))=some (bN.list ((cS (t.n+1) λi=>g (f i))++[g x])):=
 aP (λf=>some (bN.list f)) ((aP (cS (t.n+1+1)) (nR g f _ x)).trans sA.symm)
def o9(t:T)(n:Nat)(pf:Bool):Prop:=Hu
 (t.n=n)
 (t.pf=pf)
 (∀v,t.aa v=0)
 (t.tr=[])
 (t.aK=[])
 (t.m=0)
 (t.kW=0)
 (t.nB=0)
 (t.nW=0)
 (t.hd=0)
 (t.rt=0)
 (t.ok=true)
 (t.ps=[])
 (∀c,t.st c=none)
 (∀v,t.sn v=false)
 (∀v,t.us v=none)
 (∀p,t.ws p=[])
 (Hp t)
 (∀v:Int,1<=v->v<=t.n->0<=t.pl v)
theorem Hp.ij(h:Hp t)(f:t.n+1<=5):Hp t.ij:=by
 refine⟨f,⟨Nat.le_succ_of_le h.2.1,λi x e=>?_,λv v0 v1 e=>?_⟩,λv d=>?_,h.4⟩
 .exact br (h.2.2 i x e) λa b c=>(aS a (by show x<=((t.n+1));lia) (by show aW t.pl _ _ x=_;exact B (b7 (by lia)) c))
 .haveI e:0<=aW t.pl ((t.n+1:Nat)) (-1) v:=e;refine dx (v=((t.n+1:Nat))) (λq=>?_) λq=>?_
  .rw[q,cU]at e;exact absurd e (by decide)
  .haveI v1:v<=((t.n+1:Nat)):=v1;rw[b7 q]at e;show t.hp[(aW t.pl ((t.n+1)) (-1) v).toNat]? =_;exact B (b7 q) (h.2.3 v v0 (by lia) e)
 .show 0<=aW t.ac ((t.n+1:Nat)) 0 v/\aW t.ac ((t.n+1:Nat)) 0 v<=gk;rcases cY (v=((t.n+1:Nat)))with q|q
  .exact B q<|B cU<|⟨g8 _,by decide⟩
  .haveI:=d.2;haveI:v<=((t.n+1:Nat)):=this;exact B (b7 q) (h.3 v ⟨d.1,by lia⟩)
theorem o9.ij(a:o9 t n pf)(c:t.n+1<=5)(q:HQ t.ij.n h p)(hp:∀x,0<=p x↔(0<=t.ij.pl x\/x=((t.n+1:Nat):Int))):o9 (t.ij.hq h p) (n+1) pf:=by
 haveI u:∀{b:Type} {f:Int->b} {k:Int} {x:b},(∀v,f v=x)->∀v,aW f k x v=x:=λg v=>by unfold aW;split<;>first|rfl|exact g v
 haveI H:=a.18.ij c;refine⟨aP (·+1) a.1,a.2,u a.3,a.4,a.5,a.6,a.7,a.8,a.9,a.10,a.11,a.12,a.13,a.14,u a.15,u a.16,u (u a.17),⟨H.1,q,H.3,H.4⟩,λv v1 v2=>(hp v).mpr ?_⟩
 refine dx (v=((t.n+1:Nat))) (λe=>?_) (λe=>?_)
 .exact .inr e
 .haveI v2:v<=((t.n+1:Nat)):=v2;exact .inl (by show 0<=aW t.pl _ _ v;exact B (b7 e) (a.19 v v1 (by lia)))
theorem o9.dM(g:o9 t n pf):gQ W t:=by
 have cn:∀{c},¬Cn t c:=λ{c} h=>by haveI:=h.1;haveI:=h.2;rw[g.6]at this;lia
 haveI sn:∀{s},¬Sn t s:=λ{s} h=>by haveI a:=h.1;haveI b:=h.2;rw[g.13]at b;haveI b:s< (0:Nat):=b;lia
 have k:∀{x},t.val x=0:=λ{x}=>by unfold T.val;rw[g.3,g.3];split<;>rfl
 haveI b:Bd t:=⟨g.18.1,B g.4 (fw _),B g.5 (fw _),by rw[g.6];decide,λi h m=>absurd ⟨h,m⟩ cn,λp=>by rw[g.17];exact fw _⟩
 haveI S:So W t t.hd:=⟨⟨b,⟨g.7.trans g.6.symm,g.8.trans g.6.symm,g.9.trans g.6.symm⟩,⟨λv Y=>.inl (g.3 v),g.3 0,λi l e=>(by rw[g.4]at e;exact nn e),λl Y e=>(by replace e:=k▸e;cases e),λj d e=>(by rw[g.5]at e;exact nn e),λi l e=>(by rw[g.4]at e;exact nn e)⟩,⟨λc h=>absurd h cn,λc x h=>absurd h cn⟩,⟨λi l e=>(by rw[g.4]at e;exact nn e)⟩,⟨λp c h=>(by rw[g.17]at h;cases h),λc a b r h=>absurd h cn,λp=>by rw[g.17];exact .nil⟩,g.18,λv v1 v2 Y=>g.19 v v1 v2,g.15,λf=>⟨f,λs h=>absurd h sn,λc h=>absurd h cn,λv s Y e=>(by rw[g.16]at e;exact nn e),B g.11 (g8 _),B g.11 (fE _),λi l Y e=>(by replace e:=g.4▸e;exact nn e),by rw[g.13,g.11];decide⟩,⟨λc h=>absurd h cn,λY s h=>absurd h sn⟩⟩,λc a b r h=>absurd h cn,⟨B g.10 (g8 _),B g.10 (fE _),λj d e=>(by rw[g.5]at e;exact nn e)⟩,λc h=>absurd h cn⟩
 exact S.dM g.12 λY=>g.14
theorem DR(h:Ev C l A o (.ref p))(a:A p=some (.dB c d))(b:A d=some (.cM c aF))(k:Es C es l A λE A=>C f (.ref p::E) A R):aB C (.aZ o c f es) l A R:=h _ ⟨d_ _ _ _ (aS rfl a b),k⟩
theorem afE(M:cX (j3 I t 7 wl) I Z A)(a:t.n<=5)(q:Q (.int t.n) A):aA (k+1) .vW [fU I] A Q:=
 ⟨_,rfl,cI (dz (oG (mT M (by decide) (O rfl) rfl fB rfl) (M.1 .ac _ ((wM (by decide) λh=>bT.ne rfl h).trans rfl)) (B fJ (qm a))) a8 (by rw[fJ];show((t.n+1):Int)-1=t.n;lia) trivial) q⟩
noncomputable def BB(I:bT->Nat)(t:T)(a b:Nat):bT->Nat:=j7 (j7 I ((2*t.n+2:Nat)) a) ((2*t.n+2+1:Nat)) b
theorem adG(M:cX (j3 I t 7 (p5 I t++[.ref a]++[.ref b])) I ((Z.set a (.list [])).set b (.list [])) A)(na:Z a=none)(nb:(Z.set a (.list [])) b=none)(hp:Hp t)(d:t.n+1<=5)
 (q:∀i h p,Mem (BB I t a b) (t.ij.hq h p) Z i->HQ t.ij.n h p->(∀x,0<=p x↔(0<=t.ij.pl x\/x=((t.n+1:Nat):Int)))->Q .none i):aA (k+5) .Hk [fU I,.int ((t.n+1:Nat):Int)] A Q:=by
 refine⟨_,rfl,pY (λm l A=>l .X=some (fU I)/\l .n=some (.int ((t.n+1)))/\((m=1/\cX (j3 I t 7 (p5 I t++[.ref a]++[.ref b])) I ((Z.set a (.list [])).set b (.list [])) A)\/∃h p,Mem (BB I t a b) (t.ij.hq h p) Z A/\HQ t.ij.n h p/\∀x,0<=p x↔(0<=t.ij.pl x\/x=((t.n+1:Nat))))) 1 (aS rfl rfl (.inl ⟨rfl,M⟩)) ?_⟩;rintro m l A ⟨c,f,⟨rfl,M⟩|⟨h,p,M,hq,hh⟩⟩ R j P o _ _
 .have fH:Ev (aA (k+4)) l A (.aZ (.var .X) .heap .vW []) (.int t.n):=by
   intro Q q;exact DR (O c) (M.1 (.ob .heap) _ ((q8 (by decide)).1.trans rfl)) (M.1 (.at .heap) _ ((q8 (by decide)).2.trans rfl)) (afE M hp.1 q)
  refine mR (eP fH (O f) (cO (by lia))) (λY=>?_) nt
  refine qH M rfl (by decide) (mT M (by decide) (O c) rfl fB rfl) a8 rfl qh (B fJ (df d (iV (bt rfl)))) λA M=>qH M rfl (by decide) (mT M (by decide) (O c) rfl fB rfl) (ig a8 rfl) rfl qh (B fJ (df d (iV (bt rfl)))) λA M=>?_
  haveI M:Mem (BB I t a b) t.ij Z A:=WJ M na nb;haveI e:=c;haveI g:=d;refine eX M (O e) fB (aI (gA M (O e) fB aX λQ q=>OR M g q) aX) (PT M (hp.ij d) (by show(1:Int)<=((t.n+1));lia) (g8 _) λA h p M hq hh=>d9 (o _ _ (j 0 _ _ (by decide) (aS c f (.inr (cE h p (aS M hq hh)))))).1)
 .haveI e:=c;haveI g:=d;exact mR (eP (gA M (O e) fB aX λQ q=>OR M g q) (O f) (dp (Int.lt_irrefl _))) nf λY=>d9 (q A h p M hq hh)
theorem QF(h:aB C e l A λY A=>Ss C r l A Q):Ss C (.expr e::r) l A Q:=h
theorem GJ(h:aB C e l A λv A=>Q (.ret v) l A):Ss C (.ret e::r) l A Q:=h
theorem aje(M:cX (j3 I t 2 (p5 I t)) I Z A)(hp:Hp t)(d:t.n+1<=5)
 (q:∀e g h p,hJ I g->Mem g (t.ij.hq h p) Z e->HQ t.ij.n h p->(∀x,0<=p x↔(0<=t.ij.pl x\/x=((t.n+1:Nat):Int)))->Q (.int ((t.n+1:Nat):Int)) e):aA (k+6) .HL [me I] A Q:=by
 have c:∀{f:Int->V},(cS (t.n+1) f).length<bf:=λ{f}=>B fJ (df d (iV (bt rfl)));have i:(p5 I t).length+1<bf:=by unfold p5;exact B fJ (df (by lia:2*t.n+2+1<=11) (iV (bt rfl)))
 refine⟨_,rfl,dG (v:=.int ((t.n+1:Nat))) ?_ ?_⟩
 .haveI:=oG (C:=aA (k+5)) (mT (n:=.nj) M (by decide) (O (rfl:(aH.set (λY=>none) .X (me I)) .X=some (me I))) rfl bb rfl) (M.1 .aa _ ((wM (by decide) λh=>bT.ne rfl h).trans rfl)) (c9 c)
  rw[fJ]at this;exact this
 refine qH M rfl (by decide) (mT M (by decide) (O rfl) rfl bb rfl) eG rfl qh c λA M=>qH M rfl (by decide) (mT M (by decide) (O rfl) rfl bb rfl) a8 rfl qh c λA M=>qH M rfl (by decide) (mT M (by decide) (O rfl) rfl bb rfl) eG rfl qh c λA M=>qH M rfl (by decide) (mT M (by decide) (O rfl) rfl bb rfl) a8 rfl qh c λA M=>qH M rfl (by decide) (mT M (by decide) (O rfl) rfl bb rfl) eG rfl qh c λA M=>QC M (λZ A M=>mT M (by decide) (O rfl) rfl bb rfl) (Nat.lt_of_succ_lt i) λa A na M=>QC M (λZ A M=>mT M (by decide) (O rfl) rfl bb rfl) (B cx i) λb A nb M=>QF (DR (mT M (by decide) (O rfl) rfl bb rfl) (M.1 (.ob .heap) _ ((q8 (by decide)).1.trans rfl)) (M.1 (.at .heap) _ ((q8 (by decide)).2.trans rfl)) (aI (O rfl) aX _ (adG M na nb hp d λA h p M hq hh=>cI (O rfl) (q A (BB I t a b) h p (λY=>rfl) M hq hh))))
theorem afT(M:Mem I t Z A)(hp:Hp t)(a:t.n+1<=5)
 (q:∀b c h p,hJ I c->Mem c (t.ij.hq h p) Z b->HQ t.ij.n h p->(∀x,0<=p x↔(0<=t.ij.pl x\/x=((t.n+1:Nat):Int)))->Q (.int ((t.n+1:Nat):Int)) b):aA (k+7) .zb [me I] A Q:=by
 have d:∀{f:Int->V},(cS (t.n+1) f).length<bf:=λ{f}=>B fJ (df a (iV (bt rfl)));haveI M:cX (j3 I t 0 (p5 I t)) I Z A:=B U6 M;refine⟨_,rfl,qH M rfl (by decide) (mT M (by decide) (O rfl) rfl bb rfl) gU rfl qh d λA M=>?_⟩
 exact qH M rfl (by decide) (mT M (by decide) (O rfl) rfl bb rfl) ki rfl qh d λA M=>GJ (DR (O rfl) (M.1 (.ob .aO) _ ((q8 (by decide)).1.trans rfl)) (M.1 (.at .aO) _ ((q8 (by decide)).2.trans rfl)) (aX _ (aje M hp a q)))
def Lm(Z:H)(ae:List (Nat×bN))(A:H):Prop:=Q4
 (∀e∈ae,A e.1=some e.2)
 ((ae.map Prod.fst).Nodup)
 (∀a o,Z a=some o->A a=some o)
 (∀e∈ae,Z e.1=none)
theorem Lm.PH(M:Lm Z ae A)(p:ae.Perm L'):Lm Z L' A:=⟨λe h=>M.1 e (p.mem_iff.mpr h),(p.map _).nodup_iff.mp M.2,M.3,λe h=>M.4 e (p.mem_iff.mpr h)⟩
theorem Lm.OY(M:Lm Z ae A)(N:Lm A L' c):Lm Z (L'++ae) c:=by
 refine⟨λe h=>?_,?_,λa o h=>N.3 a o (M.3 a o h),λe h=>?_⟩
 .rcases dT.mp h with h|h
  .exact N.1 e h
  .exact N.3 _ _ (M.1 e h)
 .refine B iJ<|jB.mpr (aS N.2 M.2 λa ha b d q=>?_);obtain⟨e,he,rfl⟩:=cW.mp ha;obtain⟨f,hf,rfl⟩:=cW.mp d;haveI:=N.4 e he;replace this:=q▸this;replace this:=(M.1 f hf)▸this;exact ns this
 .rcases dT.mp h with h|h
  .cases z:Z e.1 with
   |none=>rfl
   |some o=>haveI:=N.4 e h;replace this:=(M.3 _ _ z)▸this;exact ns this
  .exact M.4 e h
theorem Lm.nil:Lm A [] A:=⟨λe h=>(nomatch h),.nil,λY Y h=>h,λe h=>nomatch h⟩
theorem Lm.alloc(M:Lm Z ae A)(h:A x=none):Lm Z ((x,o)::ae) (A.set x o):=by
 have ne:∀{a b},A a=some b->a≠x:=λe q=>by replace e:=q▸e;replace e:=h▸e;exact nn e
 refine⟨λe he=>?_,jb.mpr ⟨λc=>?_,M.2⟩,λa b e=>(H.a6 (ne (M.3 _ _ e))).trans (M.3 _ _ e),λe he=>?_⟩
 .rcases dW.mp he with q|q
  .exact B q H.bC
  .exact(H.a6 (ne (M.1 e q))).trans (M.1 e q)
 .obtain⟨e,he,q⟩:=cW.mp c;exact ne (M.1 e he) q
 .rcases dW.mp he with q|q
  .rw[q];cases z:Z x with
   |none=>rfl
   |some o=>have:=M.3 _ _ z;replace this:=h▸this;exact nn this
  .exact M.4 e q
theorem Lm.zk(M:Lm Z (a::b::ae) A)(h:A x=none):Lm Z (a::b::(x,o)::ae) (A.set x o):=(M.alloc h).PH (List.Perm.trans (.swap ..) (.cons _ (.swap ..)))
theorem Lm.BZ(M:Lm Z (a::(d,o)::ae) A):Lm Z (a::(d,b)::ae) (A.set d b):=by
 haveI nd:=M.2;refine aU (jb.mp nd) λc f=>?_;haveI h:=jb.mp f;haveI i:=h.1;haveI dn:=M.4 (d,o) (cP _ (bE ..));refine⟨λe he=>?_,nd,λx y e=>(H.a6 (Sub.ne e dn)).trans (M.3 _ _ e),λe he=>?_⟩
 .rcases dW.mp he with q|q
  .exact B q ((H.a6 λg=>c (dW.mpr (.inl g))).trans (M.1 a (bE ..)))
  .rcases dW.mp q with q|q
   .exact B q H.bC
   .exact(H.a6 λg=>i (cW.mpr ⟨e,q,g⟩)).trans (M.1 e (cP _ (cP _ q)))
 .rcases dW.mp he with q|q
  .exact B q (M.4 a (bE ..))
  .rcases dW.mp q with q|q
   .exact B q dn
   .exact M.4 e (cP _ (cP _ q))
theorem Lm.new(hd:A d=none)(hp:A p=none)(n:d≠p):Lm A [(p,.dB c d),(d,.cM c [])] ((A.set d (.cM c [])).set p (.dB c d)):=
 (Lm.nil.alloc hd).alloc ((H.a6 (cQ n)).trans hp)
theorem Ol:∀{aF:List (Nm×V)},(∀e∈aF,e.1≠n)->gD aF n v=aF++[(n,v)]
 |[],_=>rfl
 |(m,w)::r,h=>by
  show(if m=n then _ else _)=_
  refine B (bx (h (m,w) (bE ..)))<|B (Ol λe he=>h e (cP _ he)) ?_;rfl
theorem Bc(h:(aF.all λe=>!decide (e.1=n))=true):gD aF.reverse n v=((n,v)::aF).reverse:=B List.reverse_cons<|Ol λe he q=>by haveI:=iI.mp h e (List.mem_reverse.mp he);replace this:=(cO q)▸this;exact nf this
theorem lK(M:Lm Z ((p,.dB c d)::(d,.cM c aF.reverse)::ae) A)(b:l .X=some (.ref p))(he:Ev C l A e v)(f:aF.length<=900)(g:c.has n=true)(hf:(aF.all λe=>!decide (e.1=n))=true)(k:∀a,Lm Z ((p,.dB c d)::(d,.cM c ((n,v)::aF).reverse)::ae) a->Ss C r l a Q):Ss C (.cV (.var .X) n e::r) l A Q:=
 he _ (O b _ (fh p c d _ (ee rfl (M.1 _ (bE ..)) (M.1 _ (cP _ (bE ..))) (B List.length_reverse f) g (B (Bc hf) (k _ M.BZ)))))
theorem ky(M:Lm Z ((p,.dB c d)::(d,.cM c aF.reverse)::ae) A)(f:l .X=some (.ref p))(he:kD C l A es E)(g:aF.length<=900)(h:c.has n=true)(hf:(aF.all λe=>!decide (e.1=n))=true)(k:∀x b,Lm Z ((p,.dB c d)::(d,.cM c ((n,.ref x)::aF).reverse)::(x,.list E)::ae) b->Ss C r l b Q):Ss C (.cV (.var .X) n (.dj es)::r) l A Q:=
 he _ λx i=>haveI a:=M.zk i
  O f _ (fh p c d _ (ee rfl (a.1 _ (bE ..)) (a.1 _ (cP _ (bE ..))) (B List.length_reverse g) h (B (Bc hf) (k x _ a.BZ))))
theorem aia(M:Lm Z ((p,.dB c d)::(d,.cM c aF.reverse)::ae) A)(h:l .X=some (.ref p))(i:aF.length<=900)(j:c.has n=true)(hf:(aF.all λe=>!decide (e.1=n))=true)(k:∀a b x g,Lm Z ((p,.dB c d)::(d,.cM c ((n,.ref x)::aF).reverse)::(x,.list [.ref a,.ref b])::(b,.list [])::(a,.list [])::ae) g->Ss C r l g Q):Ss C (.cV (.var .X) n (.dj [.dj [],.dj []])::r) l A Q:=
 λa ha=>λb m=>λx o=>haveI f:=((M.zk ha).zk m).zk o
  O h _ (fh p c d _ (ee rfl (f.1 _ (bE ..)) (f.1 _ (cP _ (bE ..))) (B List.length_reverse i) j (by refine B ((Bc hf))<|k a b x _ f.BZ)))
noncomputable def Oi(a b c:Nat):List (Nm×V):=[(.oS,.int gk),(.step,.int 1024),(.lq,.ref a),(.heap,.ref b),(.jk,.ref c)]
theorem adH(M:Lm Z [(p,.dB .heap d),(d,.cM .heap [])] A)(q:∀a b c e,Lm Z [(p,.dB .heap d),(d,.cM .heap (Oi a b c)),(c,.list [.int (-1)]),(b,.list []),(a,.list [.int 0])] e->Q .none e):aA (k+1) .m9 [.ref p,.int gk] A Q:=by
 refine⟨_,rfl,lK (aF:=[]) M rfl (O rfl) (bt rfl) rfl rfl λA M=>?_⟩;exact lK M rfl eG (bt rfl) rfl rfl λA M=>ky M rfl (aI a8 aX) (bt rfl) rfl rfl λa A M=>ky M rfl aX (bt rfl) rfl rfl λb A M=>ky M rfl (aI (ig a8 rfl) aX) (bt rfl) rfl rfl λc A M=>d9 (q a b c A M)
noncomputable def Ft(a b:Nat):List (Nm×V):=[(.cK,.ref a),(.FZ,.ref b),(.sO,.int (-1))]
theorem aiT(M:Lm Z [(p,.dB .cK d),(d,.cM .cK [])] A)(q:∀a b c,Lm Z [(p,.dB .cK d),(d,.cM .cK (Ft a b)),(b,.list [.int 0]),(a,.list [])] c->Q .none c):aA (k+1) .ze [.ref p] A Q:=by
 refine⟨_,rfl,ky (aF:=[]) M rfl aX (bt rfl) rfl rfl λa A M=>?_⟩;exact ky M rfl (aI a8 aX) (bt rfl) rfl rfl λb A M=>lK M rfl (ig a8 rfl) (bt rfl) rfl rfl λA M=>d9 (q a b A M)
structure yR where
 aa:Nat
 ae:Nat
 R:Nat
 S:Nat
 P:Nat
 w0:Nat
 w1:Nat
 ws:Nat
 h:Nat
 hd:Nat
 ac:Nat
 hq:Nat
 pl:Nat
 tr:Nat
 aK:Nat
 cl:Nat
 st:Nat
 dr:Nat
 U:Nat
noncomputable def Fu(x:yR):List (Nm×V):=[(.jy,.none),(.nj,.ref x.aa),(.iR,.ref x.ae),(.kx,.ref x.R),(.pX,.ref x.S),(.rS,.ref x.P),(.lN,.ref x.ws),(.heap,.ref x.h),(.iU,.ref x.tr),(.qI,.ref x.aK),(.head,.int 0),(.iq,.int 0),(.fS,.ref x.cl),(.cK,.ref x.st),(.uv,.ref x.dr),(.zh,.ref x.U),(.vj,.int 0)]
noncomputable def FK(x:yR):List (Nat×bN):=[(x.U,.list []),(x.dr,.list []),(x.st,.list []),(x.cl,.list []),(x.aK,.list []),(x.tr,.list []),(x.h,.dB .heap x.hd),(x.hd,.cM .heap (Oi x.ac x.hq x.pl)),(x.pl,.list [.int (-1)]),(x.hq,.list []),(x.ac,.list [.int 0]),(x.ws,.list [.ref x.w0,.ref x.w1]),(x.w1,.list []),(x.w0,.list []),(x.P,.list [.int (-1)]),(x.S,.list [.int 0]),(x.R,.list [.int (-1)]),(x.ae,.list [.int 0]),(x.aa,.list [.int 0])]
noncomputable def Oj(x:yR)(sn us:Nat)(a:V):List (Nm×V):=Fu x++[(.dK,a),(.iF,.ref sn),(.qK,.ref us),(.rW,.int 0),(.nK,.bool true),(.ux,.none),(.j4,.aE []),(.qe,.none),(.wL,.int 0),(.q7,.int 0),(.ur,.int 0)]
theorem aib(M:Lm Z ((p,.dB c d)::(d,.cM c aF.reverse)::ae) A)(b:l .X=some (.ref p))(f:aF.length<=900)(g:c.has n=true)(hf:(aF.all λe=>!decide (e.1=n))=true)(k:∀a,Lm Z ((p,.dB c d)::(d,.cM c ((n,v)::aF).reverse)::ae) a->Ss C r l a Q):SA C (.var .X) n r l Q v A:=
 O b _ (fh p c d _ (ee rfl (M.1 _ (bE ..)) (M.1 _ (cP _ (bE ..))) (B List.length_reverse f) g (B (Bc hf) (k _ M.BZ))))
theorem Vx(k:∀d p,A d=none->A p=none->d≠p->C .m9 [.ref p,.int gk] ((A.set d (.cM .heap [])).set p (.dB .heap d)) λr A=>r=.none/\R (.ref p) A):aB C (.new .heap .m9 []) l A R:=k
theorem ajf(M:Lm Z [(p,.dB .aO d),(d,.cM .aO [])] A)(q:∀x a,Lm Z ((p,.dB .aO d)::(d,.cM .aO (Fu x))::FK x) a->Q .none a):aA (k+2) .jZ [.ref p,.none] A Q:=by
 refine⟨_,rfl,lK (aF:=[]) M rfl (O rfl) (bt rfl) rfl rfl λA M=>?_⟩;refine ky M rfl (aI eG aX) (bt rfl) rfl rfl λaa A M=>ky M rfl (aI a8 aX) (bt rfl) rfl rfl λae A M=>ky M rfl (aI eG aX) (bt rfl) rfl rfl λR A M=>ky M rfl (aI a8 aX) (bt rfl) rfl rfl λS A M=>ky M rfl (aI eG aX) (bt rfl) rfl rfl λP A M=>aia M rfl (bt rfl) rfl rfl λw0 w1 ws A M=>vI (Vx λhd h dn b ne=>adH (Lm.new dn b ne) λac hq pl A N=>⟨rfl,?_⟩);haveI M:=(M.OY N).PH (List.perm_middle.trans (.cons _ List.perm_middle));exact aib M rfl (bt rfl) rfl rfl λA M=>ky M rfl aX (bt rfl) rfl rfl λtr A M=>ky M rfl aX (bt rfl) rfl rfl λaK A M=>lK M rfl a8 (bt rfl) rfl rfl λA M=>lK M rfl a8 (bt rfl) rfl rfl λA M=>ky M rfl aX (bt rfl) rfl rfl λcl A M=>ky M rfl aX (bt rfl) rfl rfl λst A M=>ky M rfl aX (bt rfl) rfl rfl λdr A M=>ky M rfl aX (bt rfl) rfl rfl λU A M=>lK M rfl a8 (bt rfl) rfl rfl λA M=>d9 (q ⟨aa,ae,R,S,P,w0,w1,ws,h,hd,ac,hq,pl,tr,aK,cl,st,dr,U⟩ A M)
theorem ahV(M:Lm Z [(p,.dB .aO d),(d,.cM .aO [])] A)(q:∀x sn us a,Lm Z ((p,.dB .aO d)::(d,.cM .aO (Oj x sn us b))::(us,.list [.none])::(sn,.list [.bool false])::FK x) a->Q .none a):aA (k+3) .dN [.ref p,b,.none] A Q:=by
 refine⟨_,rfl,QF (d_ p d _ (cg rfl (M.1 _ (bE ..)) (M.1 _ (cP _ (bE ..))) (aI (O rfl) aX _ (ajf M λx A M=>?_))))⟩;exact lK (aF:=(Fu x).reverse) M rfl (O rfl) (bt rfl) rfl rfl λA M=>ky M rfl (aI gU aX) (bt rfl) rfl rfl λsn A M=>ky M rfl (aI ki aX) (bt rfl) rfl rfl λus A M=>lK M rfl a8 (bt rfl) rfl rfl λA M=>lK M rfl gU (bt rfl) rfl rfl λA M=>lK M rfl ki (bt rfl) rfl rfl λA M=>lK M rfl (ju aX) (bt rfl) rfl rfl λA M=>lK M rfl ki (bt rfl) rfl rfl λA M=>lK M rfl a8 (bt rfl) rfl rfl λA M=>lK M rfl a8 (bt rfl) rfl rfl λA M=>lK M rfl a8 (bt rfl) rfl rfl λA M=>d9 (q x sn us A M)
noncomputable def t0(pf:Bool):T:={n:=0,aa:=λY=>0,ae:=λY=>0,R:=λY=>-1,S:=λY=>0,P:=λY=>-1,sn:=λY=>false,us:=λY=>none,ac:=λY=>0,pl:=λY=>-1,hp:=[],hs:=1024,ws:=λY=>[],m:=0,cl:=λY=>[],st:=λY=>none,kW:=0,dr:=λY=>false,nB:=0,nW:=0,tr:=[],aK:=[],hd:=0,iq:=0,ld:=0,rt:=0,cf:=0,dc:=0,ok:=true,es:=none,fa:=none,fd:=[],pf:=pf,ps:=[],pe:=-1}
theorem ai3:o9 (t0 pf) 0 pf:=
 ⟨rfl,rfl,λY=>rfl,rfl,rfl,rfl,rfl,rfl,rfl,rfl,rfl,rfl,rfl,λY=>rfl,λY=>rfl,λY=>rfl,λY=>rfl,⟨fw 5,⟨dR _,λi x e=>nn e,λv Y Y h=>absurd h (by show¬0<=-1;decide)⟩,λv Y=>by show 0<=0/\0<=gk;decide,by show 0<=1024/\1024<=gk;decide⟩,λv v1 v2=>by haveI v2:v<=0:=v2;lia⟩
noncomputable def NX:bT->Nat
 |.ob .aO=>0|.at .aO=>1|.us=>2|.sn=>3|.U=>4|.dr=>5|.st=>6|.cl=>7|.aK=>8|.tr=>9|.ob .heap=>10|.at .heap=>11|.pl=>12|.hp=>13|.ac=>14|.ws=>15
 |.w i=>17-i.toNat|.P=>18|.S=>19|.R=>20|.ae=>21|.aa=>22|.ob .cK=>23|.at .cK=>24|.pn=>25|.ps=>26|.c _=>27
noncomputable def ai5:Nat->bT
 |0=>.ob .aO|1=>.at .aO|2=>.us|3=>.sn|4=>.U|5=>.dr|6=>.st|7=>.cl|8=>.aK|9=>.tr|10=>.ob .heap|11=>.at .heap|12=>.pl|13=>.hp|14=>.ac|15=>.ws
 |16=>.w 1|17=>.w 0|18=>.P|19=>.S|20=>.R|21=>.ae|22=>.aa|23=>.ob .cK|24=>.at .cK|25=>.pn|_=>.ps
theorem Lm.mem(M:Lm Z ae A)(key:∀aD o,cont I t aD=some o->ae[NX aD]? =some (I aD,o)/\ai5 (NX aD)=aD):Mem I t Z A:=by
 refine⟨λaD o e=>M.1 _ (jq (key aD o e).1),λaD d o b e c q=>?_,M.3,λa o aD b e c q=>?_⟩
 .obtain⟨f,g⟩:=key aD o e;obtain⟨h,i⟩:=key d b c;obtain⟨j,g1⟩:=fR.mp f;obtain⟨k,g2⟩:=fR.mp h;have:=(List.getElem_inj M.2 (h₀:=by rw[b9];exact j) (h₁:=by rw[b9];exact k)).mp (by simp only[List.getElem_map,List.getElem_map,g1,g2];exact q)
  exact aT g<|aT i<|aT this rfl
 .haveI:=M.4 _ (jq (key aD b c).1);replace this:=q▸this;replace this:=e▸this;exact ns this
noncomputable def Qa(x:yR)(p d sn us s a pn ps:Nat):bT->Nat
 |.ob .aO=>p|.at .aO=>d|.us=>us|.sn=>sn|.U=>x.U|.dr=>x.dr|.st=>x.st|.cl=>x.cl|.aK=>x.aK|.tr=>x.tr|.ob .heap=>x.h|.at .heap=>x.hd|.pl=>x.pl|.hp=>x.hq|.ac=>x.ac|.ws=>x.ws
 |.w i=>if i=0 then x.w0 else x.w1|.P=>x.P|.S=>x.S|.R=>x.R|.ae=>x.ae|.aa=>x.aa|.ob .cK=>s|.at .cK=>a|.pn=>pn|.ps=>ps|.c _=>0
set_option tactic.hygienic true in
theorem aev(K:List (Nat×bN))(pf:Bool)(a:pf=true->K=[(s,.dB .cK b),(b,.cM .cK (Ft ps pn)),(pn,.list [.int 0]),(ps,.list [])])
 (M:Lm Z (((p,.dB .aO d)::(d,.cM .aO (Oj x sn us (cond pf (.ref s) .none)))::(us,.list [.none])::(sn,.list [.bool false])::FK x)++K) A):Mem (Qa x p d sn us s b pn ps) (t0 pf) Z A:=by
 refine M.mem λaD o e=>?_;cases aD with
 |w i=>
  haveI e:(if 0<=i/\i<2*0+2 then some (bN.list [])else none)=some o:=e
  split at e
  .rename_i h
   injection e with e;subst e
   rcases cY (i=0)with q|q
   .subst q;exact⟨rfl,rfl⟩
   .haveI:i=1:=by lia
    clear h e q;subst this;exact⟨rfl,rfl⟩
  .exact nn e
 |c i=>
  haveI e:(if 0<=i/\i<0 then some (bN.list [])else none)=some o:=e
  rw[bx (by lia)]at e;exact nn e
 |ob c=>
  cases c with
  |cK=>
   cases f:pf with
   |true=>refine(a f)▸?_;rw[f]at e;injection e with e;subst e;exact⟨rfl,rfl⟩
   |false=>rw[f]at e;exact nn e
  |_=>injection e with e;subst e;exact⟨rfl,rfl⟩
 |«at» c=>
  cases c with
  |cK=>
   cases f:pf with
   |true=>refine(a f)▸?_;rw[f]at e;injection e with e;subst e;exact⟨rfl,rfl⟩
   |false=>rw[f]at e;exact nn e
  |_=>injection e with e;subst e;exact⟨rfl,rfl⟩
 |ps=>
  cases f:pf with
  |true=>rw[a f];rw[f]at e;injection e with e;subst e;exact⟨rfl,rfl⟩
  |false=>rw[f]at e;exact nn e
 |pn=>
  cases f:pf with
  |true=>rw[a f];rw[f]at e;injection e with e;subst e;exact⟨rfl,rfl⟩
  |false=>rw[f]at e;exact nn e
 |_=>injection e with e;subst e;exact⟨rfl,rfl⟩
def Ls(Z bj:H):Prop:=∀a E,Z a=some (.list E)->bj a=some (.list E)
theorem Ls.gX:Ls Z Z:=λY Y h=>h
theorem Ls.tr(h:Ls a b)(g:Ls b c):Ls a c:=λy o e=>g y o (h y o e)
theorem Ls.new(n:Z a=none):Ls Z (Z.set a o):=λy E e=>(H.a6 (Sub.ne e n)).trans e
noncomputable def z_(cl:Nat)(fP:Int):bN:=.kg [("cells",.ref cl),("turn",.int fP)]
def Lw(Z:H)(f:Nat)(a:Int):Prop:=Q2
 (∃cl cells fP,Z f=some (z_ cl fP)/\Z cl=some (.list (Zl cells))/\0<cells.length/\cells.length<=40/\0<=fP/\fP<=a)
 (Z gG=some (.tab none)\/∃c,Z gG=some (.tab (some c))/\Z c=some .code)
theorem Lw.new(ae:Lw Z f b)(n:Z a=none):Lw (Z.set a o) f b:=by
 have g:∀{y x},Z y=some x->(Z.set a o) y=some x:=λe=>(H.a6 (Sub.ne e n)).trans e;exact d7 ae.1 λcl cells fP d=>br d λh i j=>⟨d_ cl cells fP (aS (g h) (g i) j),ae.2.imp g λk=>az k λc l=>aU l λm p=>⟨c,g m,g p⟩⟩
theorem Lw.b_(ae:Lw Z f a)(h:a<=b):Lw Z f b:=d7 ae.1 λcl cells fP c=>iM c λd e g i j k=>⟨d_ cl cells fP (ee d e g i j (fp k h)),ae.2⟩
theorem JE{C:Cx}{l:aH}{A:H}{a:a7}{p:Nat}{aF:List (String×V)}{s:String}{x:V}(h:Ev C l A a (.ref p))(e:A p=some (.kg aF))(g:n7 aF s=some x):Ev C l A (.rn a (.str s)) x:=λY q=>h _ (fh p aF s x (e_ rfl rfl e g q))
theorem QE(h:Ev C l A e (.aE E))(g:ik xs E l=some a)(k:Ss C r a A Q):Ss C (.jE xs e::r) l A Q:=h _ (cE _ _ (aS rfl g k))
theorem aiP{C:Cx}{l:aH}{A Z:H}{I:bT->Nat}{c:bT->Option bN}{Q:Fl->aH->H->Prop}{r:List St}{o i e:a7}{p:Nat}{aF:List (String×V)}{t:String}{v:V}(M:cX c I Z A)(he:Ev C l A e v)(b:Ev C l A o (.ref p))(hi:Ev C l A i (.str t))(hp:Z p=some (.kg aF))(d:aF.length<=900)(k:∀a,cX c I (Z.set p (.kg (nA aF t v))) a->Ss C r l a Q):Ss C (.qE o i e::r) l A Q:=
 he _ (b _ (hi _ ⟨p,rfl,.inr (cE t aF (cg rfl (M.3 _ _ hp) d (k _ (M.dy (.inr ⟨_,hp⟩)))))⟩))
theorem DN{x s:Int}(h:0<s):0<=x.fmod s/\x.fmod s<s:=⟨Int.fmod_nonneg_of_pos _ h,Int.fmod_lt_of_pos _ h⟩
theorem sM(M:cX c I Z A)(ae:Lw Z f d)(J:d<=10000)(hs:0<s)
 (q:∀i bj v,cX c I bj i->Lw bj f (d+1)->Ls Z bj->0<=v->v<s->Q (.int v) i):aA (k+1) .rK [.ref f,.int s] A Q:=by
 refine gn λt=>d7 ae.1 λcl cells fP m=>iM m λf1 f2 u n t1 L=>t ?_;clear m;have o:(Zl cells).length<=bf:=B cj (aV n (bt rfl));refine⟨_,rfl,QE (ju (aI (JE (O rfl) (M.3 _ _ f1) rfl) (aI (JE (O rfl) (M.3 _ _ f1) rfl) aX))) rfl ?_⟩;refine aiP M (dz (x:=fP+1) (O rfl) a8 rfl trivial) (O rfl) n_ f1 (bt rfl) λA M=>?_;have ne:∀{y E},Z y=some (.list E)->y≠f:=λe g=>by replace e:=g▸e;replace e:=f1▸e;cases e
 have ls:Ls Z (Z.set f (z_ cl (fP+1))):=λy E e=>(H.a6 (ne e)).trans e;have L':Lw (Z.set f (z_ cl (fP+1))) f (d+1):=⟨(d_ cl cells (fP+1) (ee H.bC (ls _ _ f2) u n (by lia) (by lia))),ae.2.imp (λe=>(H.a6 λg=>by replace e:=g▸e;replace e:=f1▸e;cases e).trans e) λ⟨c,a,b⟩=>⟨c,(H.a6 λg=>by replace a:=g▸a;replace a:=f1▸a;cases a).trans a,(H.a6 λg=>by replace b:=g▸b;replace b:=f1▸b;cases b).trans b⟩⟩
 haveI len:∀l:aH,l .cells=some (.ref cl)->Ev (aA k) l A (.b1 .len (.var .cells)) (.int cells.length):=λl h=>by
  haveI:=oG (C:=aA k) (O h) (M.3 _ _ (ls _ _ f2)) o;rwa[cj]at this
 haveI p:(cells.length:Int)≠0:=by lia
 haveI np:(0:Int)<cells.length:=by lia
 haveI r:=DN (x:=fP) np;haveI m0:=r.1;haveI N:=r.2;refine QE (ju (aI (dz (x:=fP.fmod cells.length) (O rfl) (len _ rfl) rfl p) (aI (dz (x:=fP.fdiv cells.length) (O rfl) (len _ rfl) rfl (aS p (by unfold small;lia) (by unfold small;lia))) aX))) rfl ?_
 haveI w:=Int.fdiv_nonneg t1 (Int.le_of_lt np);haveI z:fP.fdiv cells.length<=fP:=B (Int.fdiv_eq_ediv_of_nonneg _ (Int.le_of_lt np)) (Int.ediv_le_self _ t1);generalize fP.fdiv cells.length=pQ at w z;haveI ms:=Int.toNat_of_nonneg m0;have hi:(fP.fmod cells.length).toNat<cells.length:=by omega
 generalize(fP.fmod cells.length).toNat=j at ms hi;refine aT ms ?_;have G:∀l:aH,l .cells=some (.ref cl)->l .cT=some (.int j)->Ev (aA k) l A (.aQ (.var .cells) (.var .cT)) (.int cells[j]):=λl h g=>uD (O h) (O g) (M.3 _ _ (ls _ _ f2)) o (B cj<|mA (fE _) (g9.mpr hi)) (A1 hi);refine cI (dz (dz (dz (G _ rfl rfl) (dz (O rfl) (dz (dz a8 (O rfl) rfl (.inl ⟨by decide,by decide⟩)) a8 rfl trivial) rfl (.inl ⟨by unfold small;lia,by unfold small;lia⟩)) rfl trivial) (dz (dz (O rfl) (O rfl) rfl (.inl ⟨by unfold small;lia,by unfold small;lia⟩)) a8 rfl ⟨by decide,by decide,by decide⟩) rfl trivial) (O rfl) rfl (Int.ne_of_gt hs)) ?_
 exact q _ _ _ M L' ls (DN hs).1 (DN hs).2
def ID(C:Cx)(a b:a7)(l:aH)(R:V->H->Prop)(v:V)(A:H):Prop:=aB C (.int 0) l A λw A=>∃r,V.eqv v w=some r/\∃r',V.bool (r !=false)=.bool r'/\(r'=true->aB C a l A R)/\(r'=false->aB C b l A R)
theorem Jh(g:kD C l A es E)(k:C f E A λv A=>ID C a b l R v A):aB C (.ite (.eq false (.call f es) (.int 0)) a b) l A R:=g _ k
theorem NW(c:v=0->aB C a l A R)(d:v≠0->aB C b l A R):ID C a b l R (.int v) A:=
 ⟨decide (v=0),rfl,_,rfl,λh=>c (jX λq=>by replace h:=(dp q)▸h;exact nf h),λh=>d λq=>by replace h:=(cO q)▸h;exact nt h⟩
def Lt(n:Nat)(x:Int):Prop:=x≠0/\-n<=x/\x<=n
theorem aff(M:cX c I Z A)(ae:Lw Z f a)(g:a<=9000)(h:0<n)
 (q:∀b bj x,cX c I bj b->Lw bj f (a+2)->Ls Z bj->Lt n x->Q (.int x) b):aA (k+2) .Bi [.ref f,.int n] A Q:=by
 refine⟨_,rfl,gF (wX a8 (kL (aI (O rfl) (aI (O rfl) aX)) (sM M ae (by lia) (by lia) λA i v M ae ls v0 v1=>wu (x:=1+v) trivial rfl ?_)))⟩
 refine GJ (Jh (aI (O rfl) (aI a8 aX)) (sM M ae (by lia) (by decide) λA d w M ae e w0 w1=>NW (λY=>O rfl _ ?_) λY=>ig (O rfl) rfl _ ?_))
 .exact q A d _ M (by rw[show a+2=a+1+1 by lia];exact ae) (ls.tr e) (aS (by lia) (by lia) (by lia))
 .exact q A d _ M (by rw[show a+2=a+1+1 by lia];exact ae) (ls.tr e) (aS (by lia) (by lia) (by lia))
theorem OI{f n m:Nat}(M:cX c I Z A)(ae:Lw Z f e)(X:e<=8000)(u:0<n)(w:l .jv=some (.ref f))(z:l .fH=some (.int n))(hm:m<=3)
 (q:∀o bj a xs,cX c I bj o->Lw bj f (e+6)->Ls Z bj->bj a=some (.list (Zl xs))->xs.length<=3->(∀x∈xs,Lt n x)->R (.ref a) o):
 oo .eV [.int m] A λws C=>ws.length<=bf/\oD (λv A R=>fA false [.cC] v l λi=>mK (aA (k+2)) [] i A R) (λv A R=>fA false [.cC] v l λi=>aB (aA (k+2)) (.call .Bi [.var .jv,.var .fH]) i A R) C ws [] A λb A=>jg A b R:=by
 haveI lr:(gE 0 m).length=m:=by unfold gE;simp only[b9,mH];lia
 refine(aS (mW (aV hm (by decide))) (B lr (aV hm (bt rfl))) ?_)
 refine zN (λaY b A=>∃bj xs,b=Zl xs/\cX c I bj A/\Lw bj f (e+2*xs.length)/\Ls Z bj/\(∀x∈xs,Lt n x)/\xs.length+aY.length=m) ?_ ?_ _ _ _ (cE Z ([]) (ee rfl M (ae.b_ (by lia)) .gX (λx h=>absurd h gh) (B lr (Nat.zero_add _))))
 .intro v aY b A p;refine cF p λE xs r=>iM r λG M ae ls j d=>?_;clear r;try clear p
  subst G;refine⟨trivial,λRR J=>?_⟩;replace d:=lQ▸d;refine kL (aI (O w) (aI (O z) aX)) (aff M ae (by lia) u λA L x M ae N P=>J _ A (cE L (xs++[x]) (ee j5 M ?_ (ls.tr N) (λy Q=>?_) ?_)))
  .exact B cx (ae.b_ (by simp only[lQ,k7];lia))
  .rcases dT.mp Q with g|g
   .exact j y g
   .exact B (cL.mp g) P
  .rw[cx];simp only[lQ,k7];lia
 .intro b A s;refine cF s λE xs t=>iM t λW M ae ls j d=>?_;clear t;try clear s
  subst W;replace d:=k7▸d;refine(aS trivial (B cj (aV (by lia:xs.length<=3) (bt rfl))) λa ha=>?_)
  haveI na:=M.dP ha;exact q _ _ a xs (M.dy (.inl ha)) ((ae.new na).b_ (by lia)) (ls.tr (.new na)) H.bC (by lia) j
theorem Wd(M:cX c I Z A)(s:xs.length<=1000)(tb:Z gG=some (.tab none))
 (q:∀i bj f,cX c I bj i->Lw bj f 0->Q (.ref f) i):aA (k+1) .OA [.args xs] A Q:=by
 haveI t:(Zl xs).length<=bf:=B cj (aV s (bt rfl));haveI u:=A5▸V7 (C:=aA k) (A:=A) (l:=aH.set (λY=>none) .vE (.args xs)) (a:=.var .vE) (j:=40) (O rfl) a8 t ⟨by decide,by decide⟩
 have e:(Zl (xs.take 40)).length<=40:=B cj<|B k9<|Nat.min_le_left ..;haveI g:(Zl (xs.take 40)).length<=bf:=aV e (bt rfl);refine⟨_,rfl,gF (u _ λa ha=>(cR _ (cg H.bC g g (sJ (f:=nO λx=>Int.fmod (U x) 1000003) H.bC _ [] (λY Y=>hO) (λv w Y=>?_) (by simp only[k7,Nat.zero_add];exact g) λb m=>?_))))⟩
 .obtain⟨y,_,rfl⟩:=cW.mp w;exact dz (fO (VU (O rfl)) rfl) a8 rfl (by decide:(1000003:Int)≠0)
 .have na:=M.dP ha;have M:=M.dy (o:=.list (Zl (xs.take 40))) (.inl ha);have nb:=M.dP m;have em:[]++((Zl (xs.take 40)).filter λY=>true).map (nO λx=>Int.fmod (U x) 1000003)=Zl ((xs.take 40).map λx=>Int.fmod (U x) 1000003):=by
   rw[List.filter_eq_self.mpr λY Y=>rfl];show((xs.take 40).map V.int).map _=((xs.take 40).map _).map V.int;simp only[fk,fk];rfl
  refine em▸?_;have M:=M.dy (o:=.list (Zl ((xs.take 40).map λx=>Int.fmod (U x) 1000003))) (.inl m);generalize E:((xs.take 40).map λx=>Int.fmod (U x) 1000003)=ys at M;have p:ys.length<=40:=by refine aT E ?_;rw[b9];rw[cj]at e;exact e
  haveI t1:∀{y o},(Z.set a (.list (Zl (xs.take 40)))) y=none->((Z.set a (.list (Zl (xs.take 40)))).set y o) gG=some (.tab none):=λn=>(H.a6 (Sub.ne ((H.a6 (Sub.ne tb na)).trans tb) n)).trans ((H.a6 (Sub.ne tb na)).trans tb);have h:=t1 (o:=.list (Zl ys)) nb;have bZ:∀A bj cl zs,cX c I bj A->bj gG=some (.tab none)->bj cl=some (.list (Zl zs))->0<zs.length->zs.length<=40->∀f,A f=none->Q (.ref f) (A.set f (.kg [("cells",.ref cl),("turn",.int 0)])):=λA bj cl zs M tb r G J f hf=>by
   haveI nf:=M.dP hf;exact q _ _ f (M.dy (o:=z_ cl 0) (.inl hf)) ⟨d_ cl zs 0 (ee H.bC ((H.a6 (Sub.ne r nf)).trans r) G J (g8 _) (g8 _)),.inl ((H.a6 (Sub.ne tb nf)).trans tb)⟩
  haveI L:((Z.set a (.list (Zl (xs.take 40)))).set b (.list (Zl ys))) b=some (.list (Zl ys)):=H.bC;show aB (aA k) (.q9 _ [.ite _ _ _,.int 0]) _ _ _;refine DQ (uC (O rfl) H.bC (B cj (aV p (bt rfl)))) (λz=>?_) λz=>?_
  .refine O rfl _ (bZ _ _ b ys M h L ?_ p);cases ys with
   |nil=>exact nf z
   |cons y ys=>exact Nat.succ_pos _
  .refineλd hd=>bZ _ _ d [11,4,27,6,18,35,2,40,9] (M.dy (.inl hd)) ((H.a6 (Sub.ne h (M.dP hd))).trans h) H.bC (by decide) (by decide)
noncomputable def kZ:Nat->List (List Bool)
 |0=>[[]]
 |n+1=>(kZ n).flatMap λr=>[r++[false],r++[true]]
noncomputable def bw(w:List Bool):V:=.aE (w.map .bool)
noncomputable def fL(ws:List (List Bool)):List V:=ws.map bw
theorem Hb:∀{n:Nat},(kZ n).length=2^n
 |0=>rfl
 |n+1=>by
  haveI:∀l:List (List Bool),(l.flatMap λr=>[r++[false],r++[true]]).length=2*l.length:=λl=>by
   induction l with
   |nil=>rfl
   |cons a l ih=>simp only[List.flatMap_cons,cx,ih,lQ];simp only[lQ,k7];lia
  rw[show kZ (n+1)=(kZ n).flatMap λr=>[r++[false],r++[true]]from rfl,this,Hb,Nat.pow_succ,Nat.mul_comm]
theorem yN:∀{n:Nat} {w:List Bool},w∈kZ n↔w.length=n
 |0,w=>by rw[show kZ 0=[[]]from rfl,cL];exact List.length_eq_zero_iff.symm
 |n+1,w=>by
  rw[show kZ (n+1)=(kZ n).flatMap λr=>[r++[false],r++[true]]from rfl,List.mem_flatMap];constructor
  .intro a;refine az a λr c=>aU c λhr h=>?_;haveI:=yN.mp hr;rcases dW.mp h with h|h
   .rw[h,cx,this];rfl
   .rw[cL.mp h,cx,this];rfl
  .intro h;rcases List.eq_nil_or_concat w with rfl|⟨r,b,rfl⟩
   .injection h
   .rw[List.concat_eq_append]at h⊢;replace h:=cx▸h;refine⟨r,yN.mpr (Nat.succ.inj h),?_⟩;cases b with
    |false=>exact bE ..
    |true=>exact cP _ (jo _)
theorem Lw.sub(ae:Lw Z f a)(s:Sub Z bj):Lw bj f a:=d7 ae.1 λcl cells fP b=>br b λd e g=>⟨d_ cl cells fP (aS (s _ _ d) (s _ _ e) g),ae.2.imp (s _ _) λh=>az h λc i=>aU i λj k=>⟨c,s _ _ j,s _ _ k⟩⟩
theorem Sub.ls(s:Sub Z bj):Ls Z bj:=λa E e=>s a _ e
theorem Sub.gX:Sub Z Z:=λY Y h=>h
noncomputable def tI:V->V->V|.aE E,z=>.aE (E++[z])|_,_=>.none
theorem ajG:((fL (kZ n)).flatMap λu=>[V.bool false,.bool true].map (tI u))=fL (kZ (n+1)):=by
 show _=fL ((kZ n).flatMap λr=>[r++[false],r++[true]]);generalize kZ n=l
 induction l with
 |nil=>rfl
 |cons r l ih=>
  show[tI (bw r) (.bool false),tI (bw r) (.bool true)]++((fL l).flatMap λu=>[V.bool false,.bool true].map (tI u))=fL ((r++[false])::(r++[true])::(l.flatMap λr=>[r++[false],r++[true]]));refine B ih ?_;have:∀b,bw (r++[b])=tI (bw r) (.bool b):=λb=>by unfold bw tI;refine B iJ ?_;rfl
  show _=bw (r++[false])::bw (r++[true])::fL _;rw[this,this];rfl
noncomputable def eE(w:List Bool)(x:Int):Bool:=decide (w[x.natAbs-1]? =some (decide (0<x)))
def Sq(A:H)(v:V)(xs:List Int):Prop:=v=.aE (Zl xs)\/∃p,v=.ref p/\A p=some (.list (Zl xs))/\xs.length<=bf
theorem Vr{f:V->V->V}(ha:Ev C l A a (.ref p))(e:A p=some (.list ws))(c:ws.length<=1000)(d:∀u∈ws,Ev C ((l.set x u).uu y) A b (.aE us))(g:us.length<=1000)(hf:∀u∈ws,∀z∈us,Ev C ((l.set x u).set y z) A cN (f u z))(k:∀a,A a=none->R (.ref a) (A.set a (.list (ws.flatMap λu=>us.map (f u))))):aB C (.sI cN x a y b) l A R:=
 ha _ (cR ws (cg e (aV c (bt rfl)) c (cR us (cg (λu h=>d u h _ ⟨rfl,rfl⟩) g e (cR f (fF (λu hu z i=>hf u hu z i _ ⟨rfl,rfl⟩) k))))))
theorem V3(ha:Ev C l A a (.aE E))(c:Ev C l A b (.aE ws))(h:E.length+ws.length<=bf):Ev C l A (.qJ a b) (.aE (E++ws)):=λY q=>ha _ (c _ (cE E ws (cg rfl rfl h q)))
theorem J4(s:Sq A v xs)(d:List Int->aH->Prop)(h0:d xs l)(step:∀y E l,d (y::E) l->∀P:Fl->aH->H->Prop,(∀l,d E l->P .next l A/\P .cont l A)->(∀v l,Q (.ret v) l A->P (.ret v) l A)->Ss C b (l.set x (.int y)) A P)(bZ:∀l,d [] l->Ss C r l A Q):tU C x b r l Q v A:=by
 rcases s with rfl|⟨p,rfl,e,z⟩
 .refine rj (λws l a=>a=A/\∃E,ws=Zl E/\d E l) ?_ ?_ _ _ _ ⟨rfl,xs,rfl,h0⟩
  .intro v ws l a k;refine aU k λf m=>az m λE n=>aU n λe c=>?_;clear m n;try clear k
   have f:=f.symm;subst f;cases E with
   |nil=>injection e
   |cons u us=>
    cases e;exact⟨trivial,λP g G i=>⟨_,rfl,step u us l c P (λl h=>g l _ ⟨rfl,us,rfl,h⟩) λv l h=>i v l _ h⟩⟩
  .intro l a o;refine aU o λj t=>az t λE w=>aU w λe c=>?_;clear t w;try clear o
   have j:=j.symm;subst j;cases E with
   |nil=>exact⟨trivial,bZ l c⟩
   |cons u us=>injection e
 .exact nF (λE l a=>a=A/\d E l) e z ⟨rfl,h0⟩ (λE l a I=>aU I λq Y=>B q e) (λu E l a J P g G i=>aU J λq c=>by haveI q:=q.symm;subst q;exact step u E l c P (λl h=>g l _ ⟨rfl,h⟩) λv l h=>i v l _ h) λl a L=>aU L λq c=>by haveI q:=q.symm;subst q;exact bZ l c
theorem ajE(M:cX c I Z A)(w:n<=5)(q:∀g bj a,cX c I bj g->Sub Z bj->bj a=some (.list (fL (kZ n)))->Q (.ref a) g):aA (k+1) .OD [.int n] A Q:=by
 refine⟨_,rfl,gF (sS (aI (ju aX) aX) _ λa ha=>?_)⟩;haveI na:=M.dP ha;refine rZ (λi l A=>∃(j:Nat) (bj:H) (a:Nat),i=j/\j<=n/\cX c I bj A/\Sub Z bj/\bj a=some (.list (fL (kZ j)))/\l .ft=some (.ref a)) (O rfl) (mW (aV w (by decide))) (d_ 0 _ a (ee rfl (fw _) (M.dy (.inl ha)) (Sub.set .gX na) H.bC rfl)) ?_ ?_
 .intro i l A hi h P x Y Y;refine d7 h λj m a1 o=>iM o λy C M s d e=>?_;clear o;try clear h
  subst y;haveI lw:(fL (kZ j)).length<=32:=by
   unfold fL;rw[b9,Hb];exact aV (Nat.pow_le_pow_right (by decide) (by lia:j<=5)) (by decide)
  refine gF (Vr (f:=tI) (O e) (M.3 _ _ d) (aV lw (by decide)) (λu Y=>ju (aI gU (aI gU aX))) (by decide) (λu hu z Y=>?_) λb p=>d9 (x _ _ ?_).1)
  .obtain⟨r,hr,rfl⟩:=cW.mp hu;have:=yN.mp hr;exact V3 (O rfl) (ju (aI (O rfl) aX)) (by rw[b9,this];exact aV (by lia:j+1<=6) (bt rfl))
  .refine B ajG ?_;haveI nb:=M.dP p;exact(d_ (j+1) _ b (ee rfl (by lia) (M.dy (.inl p)) (Sub.set s (s.dP nb)) H.bC rfl))
 .intro i l A hi t;refine gn λE=>d7 t λj m a1 v=>iM v λG C M s d e=>?_;clear v;try clear t
  subst G;haveI:j=n:=by lia
  haveI this:=this.symm;subst this;exact E<|cI (O e) (q A m a1 M s d)
theorem Lt.na(h:Lt n x):0<x.natAbs/\x.natAbs<=n:=⟨Int.natAbs_pos.mpr h.1,by have:=h.2;omega⟩
theorem JH(b:l .lit=some (.int x))(hw:l .fW=some (bw w))(a:Lt w.length x):Ev C l A (.eq ne (.aQ (.var .fW) (.cJ .sub (.b1 .abs (.var .lit)) (.int 1))) (.dw .gt (.var .lit) (.int 0))) (.bool (eE w x !=ne)):=by
 have c:=j_ (Nat.sub_lt a.na.1 Nat.one_pos) a.na.2;haveI hi:=dZ c;haveI d:Ev C l A (.aQ (.var .fW) (.cJ .sub (.b1 .abs (.var .lit)) (.int 1))) (.bool w[x.natAbs-1]):=DT (O hw) (dz (fO (O b) rfl) a8 (Int.ofNat_sub a.na.1).symm trivial) (mA (fE _) (by rw[b9];exact g9.mpr c)) (by simp only[Int.toNat_natCast,List.getElem?_map,hi];rfl)
 haveI:eE w x=decide (w[x.natAbs-1]=decide (0<x)):=by
  unfold eE;exact B hi (decide_eq_decide.mpr ⟨λh=>dH h,λh=>aP some h⟩)
 exact B this (uB d (eP (O b) a8 rfl) rfl)
theorem NJ(s:Sq A v xs)(i:∀x∈xs,Lt w.length x)(q:Q (.bool (xs.any (eE w))) A):aA (k+1) .Bh [v,bw w] A Q:=by
 refine⟨_,rfl,kR (O rfl _ ?_)⟩;refine J4 s (λE l=>(∀x∈E,x∈xs)/\xs.any (eE w)=E.any (eE w)/\l .fW=some (bw w)) (aS (λY h=>h) rfl rfl) ?_ ?_
 .intro y E l b P j m;refine br b λc a d=>?_;try clear b
  have f:=c y (bE ..);haveI e:eE w y=false->xs.any (eE w)=E.any (eE w):=λg=>by simp only[a,List.any_cons,g];rfl
  refine bL (JH rfl d (i y f)) (λz=>cI gU (m _ _ ?_)) λz=>c_ (j _ (by exact(aS (λx h=>c x (cP _ h)) (e (by rw[Bool.bne_false]at z;exact z)) d))).1
  rw[Bool.bne_false]at z;rw[mG.mpr ⟨y,f,z⟩]at q;exact q
 .intro l n;refine br n λY a Y=>?_;rw[a]at q;exact cI gU q
theorem C7(s:Sq A v xs)(i:∀x∈xs,Lt w.length x)(q:Q (.bool (xs.all (eE w))) A):aA (k+1) .vi [v,bw w] A Q:=by
 refine⟨_,rfl,kR (O rfl _ ?_)⟩;refine J4 s (λE l=>(∀x∈E,x∈xs)/\xs.all (eE w)=E.all (eE w)/\l .fW=some (bw w)) (aS (λY h=>h) rfl rfl) ?_ ?_
 .intro y E l b P j m;refine br b λc a d=>?_;try clear b
  have f:=c y (bE ..);haveI e:eE w y=true->xs.all (eE w)=E.all (eE w):=λg=>by simp only[a,List.all_cons,g];rfl
  refine bL (JH rfl d (i y f)) (λz=>cI gU (m _ _ ?_)) λz=>c_ (j _ (by exact(aS (λx h=>c x (cP _ h)) (e (by cases g:eE w y with|true=>rfl|false=>replace z:=g▸z;exact nt z)) d))).1
  haveI z:eE w y=false:=by cases g:eE w y with|false=>rfl|true=>replace z:=g▸z;exact nf z
  rw[List.all_eq_false.mpr ⟨y,f,z.symm▸gH⟩]at q;exact q
 .intro l n;refine br n λY a Y=>?_;rw[a]at q;exact cI gU q
theorem Oe:∀{xs:List Int},mX C X .mn (Zl xs) (xs.map λx=>.int (U x)) A
 |[]=>trivial
 |x::xs=>⟨⟨x,rfl,rfl⟩,Oe⟩
theorem DU(ha:Ev C l A a (.int x))(c:Ev C l A b (.ref p))(e:A p=some (.list (Zl xs)))(h:xs.length<=bf)(g:(decide (x∈xs) !=ne)=d):Ev C l A (.jh ne a b) (.bool d):=g▸λY q=>ha _ (c _ (.inl (cE _ _ (cg e (B cj h) A6 q))))
theorem VD(h:Ev C l A a (.ref p))(e:A p=some (.list E))(b:E.length<=bf)(g:tm (l .X) k A λA=>yE C (l .X) k bW E A λgw=>jg A gw λv A=>tJ A v λE=>R (.aE E) A):aB C (.b1 .tuple (.sorted a k bW)) l A R:=h _ (.inl (cR E (aS e b g)))
theorem ae7(M:cX c I Z A)(ae:Lw Z f k)(q:∀d bj,cX c I bj d->Lw bj f k->Ls Z bj->R d):tm X .mn A R:=by
 refine Or.elim ae.2 (λh=>?_) (λl=>az l λb m=>aU m λp r=>?_)
 .refine .inr ⟨M.3 _ _ h,λb i=>?_⟩;have j:=M.dP i;haveI M:=M.dy (o:=.code) (.inl i);haveI ct:=Sub.ne h j;haveI M:=M.dy (o:=.tab (some b)) (.inr ⟨_,(H.a6 ct).trans h⟩);have g:∀{y x},Z y=some x->x≠.tab none->((Z.set b .code).set gG (.tab (some b))) y=some x:=λ{y x} e n=>(H.a6 λw=>n (by rw[w,h]at e;exact(dH e).symm)).trans ((H.a6 (Sub.ne e j)).trans e)
  exact d7 ae.1 λcl cells fP s=>br s λf1 f2 t=>q _ _ M ⟨(d_ cl cells fP (aS (g f1 (λz=>nomatch z)) (g f2 (λz=>nomatch z)) t)),.inr ⟨b,H.bC,(H.a6 (cQ ct)).trans H.bC⟩⟩ λa E e=>g e λz=>nomatch z
 .exact .inl ⟨b,M.3 _ _ p,M.3 _ _ r,q A Z M ae .gX⟩
theorem Oy(M:cX c I Z A)(ae:Lw Z f G)(hp:Z p=some (.list (Zl xs)))(r:xs.length<=5)(nz:∀x∈xs,x≠0)
 (q0:∀s bj,cX c I bj s->Lw bj f G->Ls Z bj->(∃x∈xs,-x∈xs)->Q .none s)
 (q1:∀s bj ys,cX c I bj s->Lw bj f G->Ls Z bj->(∀x∈xs,-x∉xs)->Td ys->(∀x,x∈ys↔x∈xs)->ys.length<=xs.length->Q (.aE (Zl ys)) s):aA (k+1) .ql [.ref p] A Q:=by
 refine⟨_,rfl,gF (sS aX _ λb i=>?_)⟩;have nb:=M.dP i;haveI pb:=Sub.ne hp nb;haveI J:xs.length<=bf:=aV r (bt rfl);haveI M:=M.dy (o:=.list (Zl [])) (.inl i);have fT:∀{o},(Z.set b o) p=some (.list (Zl xs)):=(H.a6 pb).trans hp;refine kR (O rfl _ ?_);refine nF (λE l A=>∃ys done,xs=done++E/\cX c I (Z.set b (.list (Zl ys))) A/\(∀x,x∈ys↔x∈done)/\ys.Nodup/\(∀x∈done,-x∉xs)/\l .bR=some (.ref p)/\l .ft=some (.ref b)) (M.3 _ _ fT) J (cE ([]) ([]) (oy rfl M (λY=>Iff.rfl) .nil (λx h=>(nomatch h)) rfl rfl)) (λE l A Yr=>cF Yr λys done Ys=>br Ys λY M Y=>M.3 _ _ fT) ?_ ?_
 .intro x E l A Zn P L Y p3;refine cF Zn λys done Zo=>vY Zo λe M m nd dn u j=>?_;haveI C:x∈xs:=B e (iW _ (bE ..));have n:=aV (nd.length_le_of_subset λy t=>by exact B e (lO _ ((m y).mp t))) r
  haveI v:(Z.set b (.list (Zl ys))) b=some (.list (Zl ys)):=H.bC;have N:xs=(done++[x])++E:=by simp only[e,iX];rfl
  refine bL (DU (ig (O rfl) rfl) (O u) (M.3 _ _ fT) J (Bool.bne_false _)) (λz=>cI ki (p3 _ _ _ (q0 A _ M (ae.new nb) (.new nb) ⟨x,C,dQ z⟩))) λz=>c7 ?_;have z:=gZ z;haveI W:∀y∈done++[x],-y∉xs:=λy t=>(dT.mp t).elim (dn y) λg=>B ((cL.mp g))<|z;refine bL (DU (d:=!decide (x∈ys)) (O rfl) (O j) (M.3 _ _ v) (aV n (bt rfl)) (by cases decide (x∈ys)<;>rfl)) (λw=>?_) λw=>c_ (L _ _ ?_).1
  .have w:x∉ys:=λg=>by replace w:=(cO g)▸w;exact nf w
   refine m4 M (O j) (O rfl) v (B cj (df n (iV (bt rfl)))) λA M=>c_ (L _ _ ?_).1;rw[j5]at M;refine(cE (ys++[x]) (done++[x]) (oy N (M.fD λy o h=>?_) (λy=>?_) (jB.mpr ⟨nd,jb.mpr ⟨λg=>(nomatch g),.nil⟩,λa ha b i g=>w (by refine(cL.mp i)▸?_;refine aT g ?_;exact ha)⟩) W u j))
   .rcases cY (y=b)with g|g
    .simp only[g,H.bC]at h⊢;exact h
    .rw[H.a6 g]at h;rw[H.a6 g,H.a6 g];exact h
   .rw[dT,dT,m]
  .have w:x∈ys:=jX λg=>by replace w:=(dp g)▸w;exact nt w
   exact(cE ys (done++[x]) (oy N M (λy=>by rw[dT,m];exact⟨.inl,λh=>h.elim id λg=>B (cL.mp g) ((m x).mp w)⟩) nd W u j))
 .intro l A Zp;refine gn λkG=>cF Zp λys done X=>vY X λe M m nd dn u j=>?_;clear X;rw[fQ]at e;subst e;refine kG ?_;have n:=nd.length_le_of_subset λy t=>(m y).mp t;haveI v:(Z.set b (.list (Zl ys))) b=some (.list (Zl ys)):=H.bC;refine GJ (VD (O j) (M.3 _ _ v) (B cj (aV (aV n r) (bt rfl))) (ae7 M (ae.new nb) λA gI M L1 ls=>yF (df (aV n r) (by decide)) 1 (by decide) (λY=>rfl) Oe λzs q hz=>λa ha=>?_))
  haveI na:=M.dP ha;haveI lz:zs.length<=xs.length:=B q.length_eq n;refine⟨Zl zs,H.bC,B cj (aV (aV lz r) (bt rfl)),q1 _ _ zs (M.dy (.inl ha)) (L1.new na) ((Ls.new nb).tr (ls.tr (.new na))) dn ⟨λx hx=>nz x ((m x).mp (q.mem_iff.mp hx)),?_⟩ (λx=>q.mem_iff.trans (m x)) lz⟩;refine List.Pairwise.imp_of_mem (R:=λa b=>U a<=U b/\a≠b) (λ{a b} ha i g=>?_) (List.pairwise_and_iff.mpr ⟨hz,q.nodup_iff.mpr nd⟩);refine Int.lt_iff_le_and_ne.mpr ⟨g.1,λh=>?_⟩;refine Or.elim (kJ h) (λe=>?_) (λe=>?_)
  .exact g.2 e
  .exact dn b ((m b).mp (q.mem_iff.mp i)) (aT e ((m a).mp (q.mem_iff.mp ha)))
theorem cX.drop(M:cX c I Z A)(ha:A a=none):cX c I Z (A.set a o):=(M.dy (.inl ha)).fD λy x e=>B (H.a6 (Sub.ne e (M.dP ha))) e
theorem B7(M:cX c I Z A)(d:fX C l A a E)(f:E.length<=bf)(g:∀b,cX c I Z b->(E.isEmpty !=ne)=true->Ss C t l b (Nx C r Q))(h:∀b,cX c I Z b->(E.isEmpty !=ne)=false->Ss C e l b (Nx C r Q)):Ss C (.ite (.jf ne a) t e::r) l A Q:=
 d _ λa ha=>cE a E (cg rfl H.bC f (cR _ (aS rfl (g _ (M.drop ha)) (h _ (M.drop ha)))))
theorem aiG(M:cX c I Z A)(k:fX C l A a (Zl xs))(m:∀d,cX c I Z d->fX C l d b (Zl ys))(n:xs.length<=1000)(o:ys.length<=1000)(s:∀d,cX c I Z d->(decide (xs=ys) !=ne)=true->Ss C t l d (Nx C r Q))(u:∀d,cX c I Z d->(decide (xs=ys) !=ne)=false->Ss C e l d (Nx C r Q)):Ss C (.ite (.p9 ne a b) t e::r) l A Q:=
 k _ λp hp=>m _ (M.drop hp) _ λq hq=>by
  haveI v:p≠q:=λg=>by replace hq:=g.symm▸hq;replace hq:=H.bC▸hq;exact ns hq
  haveI h:∀xs:List Int,∀x∈Zl xs,∃i,x=V.int i:=λxs x w=>by refine az (cW.mp w) λi j=>aU j λY f=>?_;clear j;subst f;exact⟨i,rfl⟩
  exact mM p q (Zl xs) (Zl ys) _ (yV rfl rfl ((H.a6 v).trans H.bC) H.bC (B cj n) (B cj o) (h xs) (h ys) zZ (cR _ (aS rfl (s _ ((M.drop hp).drop hq)) (u _ ((M.drop hp).drop hq)))))
theorem VE(M:cX c I Z A)(d:fX C l A a E)(e:E.length<=bf)(k:∀b,cX c I Z b->R (.aE E) b):aB C (.b1 .tuple a) l A R:=
 d _ λa ha=>cR E (aS H.bC e (k _ (M.drop ha)))
theorem V5(d:Ev C l A e (.int a))(h:Ev C l A i (.int b))(fa:fits a)(j:fits b)(c:(gE a b).length<=bf)(k:∀v∈gE a b,p6 C (l.set x v) A m (g v))(hf:∀v∈gE a b,g v=true->Ev C (l.set x v) A cN (f v)):fX C l A (.comp cN false [x] .eV [e,i] m) (((gE a b).filter g).map f):=
 λQ q=>d _ (h _ (cg fa j c (sJ trivial _ [] k hf (by simp only[k7,Nat.zero_add];exact c) λa ha=>q a ha)))
theorem BQ{n:Nat}:gE 1 ((n:Int)+1)=Zl ((List.range n).map λ(i:Nat)=>1+(i:Int)):=by
 unfold gE Zl;simp only[fk,show((n:Int)+1-1).toNat=n by lia];rfl
theorem Ju:∀{a b:List Bool},V.l_ (a.map .bool) (b.map .bool)=some (decide (a=b))
 |[],[]=>rfl
 |[],_::_=>rfl
 |_::_,[]=>rfl
 |x::a,y::b=>by
  show(match some (decide (x=y))with|some true=>V.l_ (a.map .bool) (b.map .bool)|r=>r)=_
  rcases cY (x=y)with e|e
  .rw[cO e];exact Ju.trans<|aT e<|aP some (decide_eq_decide.mpr ⟨λh=>aT h rfl,λh=>(List.cons.inj h).2⟩)
  .rw[dp e];rw[dp λh=>e (List.cons.inj h).1]
theorem N5:∀{ws:List (List Bool)},V.om (bw w) (fL ws)=some (decide (w∈ws))
 |[]=>rfl
 |x::ws=>by
  haveI f:∀c:List Bool,(c.map V.bool).all V.iB=true:=λc=>iI.mpr λv h=>by refine az (cW.mp h) λx a=>aU a λY b=>?_;clear a;subst b;rfl
  haveI e:V.eqv (bw x) (bw w)=some (decide (x=w)):=by
   show(if(x.map V.bool).all V.iB&&(w.map V.bool).all V.iB then V.l_ (x.map V.bool) (w.map V.bool)else none)=_
   rw[f,f];exact Ju
  show(match V.eqv (bw x) (bw w),V.om (bw w) (fL ws)with|some t,some u=>some (t||u)|_,_=>none)=_
  refine B e<|B N5 ?_;show some (decide (x=w)||decide (w∈ws))=_;rw[<-Bool.decide_or];exact aP some (decide_eq_decide.mpr ⟨λh=>h.elim (λe=>aT e (bE ..)) (cP _),λh=>(dW.mp h).imp Eq.symm id⟩)
theorem VT(ha:Ev C l A a (bw w))(c:Ev C l A b (.ref p))(e:A p=some (.list (fL ws)))(h:ws.length<=1000)(g:w∈ws):Ev C l A (.jh false a b) (.bool true):=
 λY q=>ha _ (c _ (.inl (cE _ _ (cg e (by unfold fL;rw[b9];exact aV h (bt rfl)) N5 (by refine B ((cO g))<|q)))))
noncomputable def T.o6(t:T):List Bool:=(List.range t.n).map λ(i:Nat)=>decide (t.val (1+i)=1)
theorem Hc{t:T}:t.o6.length=t.n:=by unfold T.o6;rw[b9,mH]
theorem Hd(al:∀v:Int,1<=v->v<=t.n->t.val v=1\/t.val v= -1)(a:a9 t x):eE t.o6 x=true↔t.val x=1:=by
 have x0:=a.1;haveI b:=a.2.1;haveI f:=a.2.2;haveI c:x.natAbs-1<t.n:=j_ (Nat.sub_lt (Int.natAbs_pos.mpr x0) (by decide)) (Int.ofNat_le.mp a.U.2)
 haveI d:t.o6[x.natAbs-1]? =some (decide (t.val (1+((x.natAbs-1:Nat)))=1)):=by
  unfold T.o6;simp only[List.getElem?_map,List.getElem?_range c];rfl
 unfold eE;refine B d ?_;rw[k6];refine Or.elim (Int.lt_or_lt_of_ne x0) (λh=>?_) (λh=>?_)
 .have e:1+((x.natAbs-1:Nat))= -x:=(aP Int.ofNat (Nat.add_sub_cancel' (Int.natAbs_pos.mpr x0))).trans (Int.ofNat_natAbs_of_nonpos (Int.le_of_lt h));rw[e,dp (Int.not_lt.mpr (Int.le_of_lt h))];haveI:=al (-x) (Int.neg_pos_of_neg h) (Int.neg_le_of_neg_le b);rw[kX x0]at this⊢;constructor
  .intro g;lia
  .intro g;exact B g<|B (dp (by decide)) rfl
 .have e:1+((x.natAbs-1:Nat))=x:=(aP Int.ofNat (Nat.add_sub_cancel' (Int.natAbs_pos.mpr x0))).trans (Int.natAbs_of_nonneg (Int.le_of_lt h));rw[e,cO h];exact⟨λg=>dQ (dH g),λg=>by rw[cO g]⟩
theorem afJ(M:Mem I t Z A)(m:t.n<=5)(al:∀v:Int,1<=v->v<=t.n->t.val v=1\/t.val v= -1)(hw:Z w=some (.list (fL ws)))(wl:ws.length<=1000)(hp:Z p=some (.list (Zl s)))(gl:s.length<=3)(lg:∀x∈s,a9 t x)(hm:t.o6∈ws)(hg:∀x∈s,t.val x=1)
 (q:∀af,Mem I t Z af->Q (.bool true) af):aA (k+2) .OB [me I,.int t.n,.ref w,.ref p] A Q:=by
 haveI E:∀i∈(List.range t.n).map λ(i:Nat)=>1+(i:Int),1<=i/\i<=t.n:=λi hi=>by
  refine az (cW.mp hi) λj Lk=>aU Lk λu G=>?_;clear Lk;subst G;have:=List.mem_range.mp u;lia
 haveI rl:(gE 1 (t.n+1)).length<=bf:=by simp only[BQ,cj,b9,mH];exact aV m (bt rfl)
 have row:∀{A:H} {l:aH} {cN:a7} {g:Int->Int},l .fH=some (.int t.n)->(∀i:Int,1<=i->i<=t.n->Ev (aA (k+1)) (l.set .var (.int i)) A cN (.int (g i)))->fX (aA (k+1)) l A (.comp cN false [.var] .eV [.int 1,.cJ .add (.var .fH) (.int 1)] []) (Zl ((List.range t.n).map λ(i:Nat)=>g (1+i))):=λ{A l cN g} h1 h2=>by
  haveI:=V5 (f:=nO g) a8 (dz (op:=.add) (x:=t.n+1) (O h1) a8 rfl trivial) ⟨by decide,by decide⟩ (⟨by lia,by lia⟩) rl (λY Y=>hO) λv d Y=>by
   rw[BQ]at d;refine az (cW.mp d) λi Lr=>aU Lr λhi J=>?_;clear Lr;subst J;exact h2 i (E i hi).1 (E i hi).2
  rw[List.filter_eq_self.mpr λY Y=>rfl,BQ]at this;unfold Zl at this⊢;rw[fk,fk]at this;exact B fk this
 have L:∀{g:Int->Int},((List.range t.n).map λ(i:Nat)=>g (1+i)).length<=5:=λ{g}=>by rw[b9];exact B mH<|m
 haveI val:∀{A:H} {l:aH},Mem I t Z A->l .eK=some (me I)->∀i:Int,1<=i->i<=t.n->Ev (aA (k+1)) (l.set .var (.int i)) A (.aZ (.var .eK) .aO .ic [.var .var]) (.int (t.val i)):=λ{A l} M h i N i2=>gA M (O h) bb (aI (O rfl) aX) (qL M m (qA N i2).1);refine⟨_,rfl,gF (row rfl (val M rfl) _ λa ha=>?_)⟩;haveI na:=M.dP ha;haveI M:=M.dy (o:=.list (Zl ((List.range t.n).map λ(i:Nat)=>t.val (1+i)))) (.inl ha);generalize r:((List.range t.n).map λ(i:Nat)=>t.val (1+i))=xs at M;haveI xl:xs.length<=5:=aT r L;haveI xv:∀x∈xs,x=1\/x= -1:=λx b=>by
  replace b:=r.symm▸b;obtain⟨j,u,rfl⟩:=cW.mp b;have:=List.mem_range.mp u;exact al _ (by lia) (by lia)
 have P:∀{A},Mem I t (Z.set a (.list (Zl xs))) A->A a=some (.list (Zl xs)):=λM=>M.3 _ _ H.bC;have R:(Zl xs).length<=bf:=B cj (aV xl (bt rfl));haveI wk:∀{A},Mem I t (Z.set a (.list (Zl xs))) A->Mem I t Z A:=λM=>M.fD λy o e=>(H.a6 (Sub.ne e na)).trans e;have f0:(Zl xs).filter (qk λx=>!decide (x∈([1,-1])))=[]:=List.filter_eq_nil_iff.mpr λv d=>by
  refine az (cW.mp d) λx W=>aU W λb X=>?_;subst X;rcases xv x b with e|e<;>refine B e ?_<;>decide
 refine B7 M (qd (O rfl) (P M) R (λv d=>?_) λv Y Y=>O rfl) (B f0 (fw _)) (λA M z=>by replace z:=f0▸z;exact nf z) λA M Y=>c7 ?_
 .obtain⟨x,b,rfl⟩:=cW.mp d;haveI:=dC (C:=aA (k+1)) (DV (ne:=true) (c:=!decide (x∈([1,-1]))) (l:=((((((aH.set (λY=>none) .eK (me I)).set .fH (.int t.n)).set .fj (.ref w)).set .given (.ref p)).set .row (.ref a)).set .cC (.int x))) (A:=A.set a (.list (Zl xs))) (a:=.var .cC) (O rfl) (ju (E:=Zl [1,-1]) (aI a8 (aI (ig a8 rfl) aX))) A6 (by cases decide (x∈([1,-1]))<;>rfl)) λY=>hO
  rw[Bool.and_true]at this;exact this
 haveI f1:((List.range t.n).map λ(i:Nat)=>t.val (-(1+i)))=xs.map λx=>-x:=by
  rw[<-r,fk];exact k8 λi Y=>kX (by lia)
 haveI nl:∀{f:Int->Int},(xs.map f).length<=1000:=λ{f}=>by rw[b9];exact aV xl (by decide)
 refine aiG M (f1▸row rfl λi N i2=>gA M (O rfl) bb (aI (ig (O rfl) rfl) aX) (qL M m (qA N i2).1.n)) (λA M=>?_) nl nl (λA M z=>by rw[cO rfl]at z;exact nf z) λA M Y=>c7 ?_
 .haveI:=sT (C:=aA (k+1)) (l:=(((((aH.set (λY=>none) .eK (me I)).set .fH (.int t.n)).set .fj (.ref w)).set .given (.ref p)).set .row (.ref a))) (x:=.cC) (it:=.var .row) (cN:=.neg (.var .cC)) (f:=nO λx=>-x) (O rfl) (P M) R λv d=>by
   refine az (cW.mp d) λx KL=>aU KL λY Zs=>?_;clear KL;subst Zs;exact ig (O rfl) rfl
  unfold Zl at this⊢;rw[fk]at this;exact B fk this
 haveI f2:(Zl xs).map (λv=>V.bool (decide (v.num=1)))=t.o6.map .bool:=by
  unfold Zl T.o6;simp only[<-r,fk,fk,fk];rfl
 haveI e2:=sT (C:=aA (k+1)) (l:=(((((aH.set (λY=>none) .eK (me I)).set .fH (.int t.n)).set .fj (.ref w)).set .given (.ref p)).set .row (.ref a))) (x:=.cC) (it:=.var .row) (cN:=.eq false (.var .cC) (.int 1)) (f:=λv=>V.bool (decide (v.num=1))) (O rfl) (P M) R λv d=>by
  refine gn λkG=>az (cW.mp d) λx KN=>aU KN λY Zt=>?_;clear KN;subst Zt;exact kG<|di (O rfl) a8 (Bool.bne_false _)
 simp only[f2]at e2;refine gF (VE M e2 (by rw[b9,Hc];exact aV m (bt rfl)) λA M=>?_)
 have M:=wk M;haveI adO:=iI.mpr λx b=>(Hd al (lg x b)).mpr (hg x b);haveI VG:Ev (aA (k+1)) ((((((aH.set (λY=>none) .eK (me I)).set .fH (.int t.n)).set .fj (.ref w)).set .given (.ref p)).set .row (.ref a)).set .fW (bw t.o6)) A (.jh false (.var .fW) (.var .fj)) (.bool true):=VT (O rfl) (O rfl) (M.3 _ _ hw) wl hm;haveI VF:Ev (aA (k+1)) ((((((aH.set (λY=>none) .eK (me I)).set .fH (.int t.n)).set .fj (.ref w)).set .given (.ref p)).set .row (.ref a)).set .fW (bw t.o6)) A (.call .vi [.var .given,.var .fW]) (.bool true):=nE (aI (O rfl) (aI (O rfl) aX)) λQ q=>C7 (.inr (cR p (aS rfl (M.3 _ _ hp) (aV gl (bt rfl))))) (λx b=>B Hc (lg x b)) (aT adO.symm q);exact cI (gT (dC (c:=true) VG λY=>dC VF λY=>hO)) (q A M)
noncomputable def Ri:V->Bool|.bool b=>b|_=>false
noncomputable def Gj(g:List Bool->Bool):V->Bool|.aE E=>g (E.map Ri)|_=>false
theorem PA:Gj g (bw w)=g w:=by
 show g ((w.map V.bool).map Ri)=g w;exact B fk (aP g ((k8 λb Y=>rfl).trans (List.map_id w)))
theorem ajF:((fL ws).filter (Gj g)).map id=fL (ws.filter g):=by
 unfold fL;simp only[List.filter_map,List.map_id];exact aP _ (List.filter_congr λw Y=>PA)
def Wl(n:Nat)(ws:List (List Bool)):(Int->Prop)->Prop:=λh=>∃w∈ws,h=λx=>Lt n x/\eE w x=true
theorem Wl.wo:Wo (Wl n ws):=⟨λh f x c d=>az f λw g=>aU g λY e=>by
 simp only[e]at c d;obtain⟨⟨x0,_⟩,i⟩:=c;haveI j:=d.2;haveI a:=dQ i;haveI b:=dQ j;rw[Int.natAbs_neg,a]at b;refine Or.elim (Int.lt_or_lt_of_ne x0) (λz=>?_) (λz=>?_)
 .replace b:=(dp (by lia:¬0<x))▸b;replace b:=(cO (by lia:0< -x))▸b;cases b
 .replace b:=(cO z)▸b;replace b:=(dp (by lia:¬0< -x))▸b;cases b⟩
theorem z7{cond:a7}(h:Ev C l A it (.ref p))(e:A p=some (.list (fL ws)))(c:ws.length<=1000)(d:∀w∈ws,Ev C (l.set .fW (bw w)) A cond (.bool (g w))):fX C l A (.comp (.var .fW) false [.fW] .seq [it] [cond]) (fL (ws.filter g)):=by
 haveI:=qd (cN:=.var .fW) (f:=id) (g:=Gj g) h e (by unfold fL;rw[b9];exact aV c (bt rfl)) (λv i=>by
  refine az (cW.mp i) λw b=>aU b λhw a=>?_;clear b;subst a;rw[PA];haveI:=dC (d w hw) λY=>hO;rw[Bool.and_true]at this;exact this) λv Y Y=>O rfl
 simp only[ajF]at this;exact this
theorem Ro{ws:List (List Bool)}(a:ws.length<=1000):(fL (ws.filter g)).length<=bf:=by
 unfold fL;rw[b9];exact aV (lP ..) (aV a (bt rfl))
theorem Rp{ws:List (List Bool)}(h:∀w∈ws,g w=false):fL (ws.filter g)=[]:=by
 rw[List.filter_eq_nil_iff.mpr λw hw=>by exact B (h w hw) gH];rfl
noncomputable def iE(I:bT->Nat)(t:T):V:=cond t.pf (lL I) .none
theorem rf(h:l .dK=some (iE I t)):Ev C l A (.hV ne (.var .dK)) (.bool (!t.pf !=ne)):=by
 cases f:t.pf with
 |true=>rw[iE,f]at h;cases ne<;>exact qb (O h) (λz=>nomatch z)
 |false=>rw[iE,f]at h;cases ne<;>exact qa (O h)
theorem V9(M:Mem I t Z A)(ae:Lw Z f a_)(b:Bd t)(P:t.pf=true->ek t)(hw:Z w=some (.list (fL ws)))(wl:ws.length<=1000)(wn:∀u∈ws,u.length=t.n)(hp:Z p=some (.list (Zl g)))(gl:g.length<=3)(J:∀x∈g,a9 t x)
 (sub:∀x∈t.fd,x∈g) (fl:t.fd.length<=5) (no:∀u∈ws,t.fd.all (eE u)=false) (f0:(t.pf=false\/∃x∈t.fd,-x∈t.fd)->t.fa=none) (f1:t.pf=true->(∀x∈t.fd,-x∉t.fd)->∃s,t.fa=some s/\Sn t s/\Td (t.cs s)/\∀x,x∈t.cs s↔-x∈t.fd)
 (q:∀L bj,Mem I t bj L->Lw bj f a_->Ls Z bj->Q (.bool true) L):aA (k+2) .Oz [me I,iE I t,.ref w,.ref p] A Q:=by
 haveI lf:(Zl t.fd).length<=bf:=B cj (aV fl (bt rfl));refine⟨_,rfl,gF (iP M (O rfl) bb aX (Wa M λa ha=>?_))⟩;haveI na:=M.dP ha;have M:=M.dy (o:=.list (Zl t.fd)) (.inl ha);have s0:Sub Z (Z.set a (.list (Zl t.fd))):=Sub.set .gX na;have m:∀{A},Mem I t (Z.set a (.list (Zl t.fd))) A->A a=some (.list (Zl t.fd)):=λM=>M.3 _ _ H.bC;have N:(Zl t.fd).filter (qk λx=>!decide (x∈g))=[]:=List.filter_eq_nil_iff.mpr λv i=>by
  obtain⟨x,c,rfl⟩:=cW.mp i;show¬(!decide (x∈g))=true;refine B (cO (sub x c)) ?_;decide
 refine B7 M (qd (O rfl) (m M) lf (λv i=>?_) λv Y Y=>O rfl) (B N (fw _)) (λA M z=>by replace z:=N▸z;exact nf z) λA M Y=>c7 ?_
 .obtain⟨x,c,rfl⟩:=cW.mp i;haveI:=dC (C:=aA (k+1)) (DU (ne:=true) (a:=.var .lit) (b:=.var .given) (d:=!decide (x∈g)) (l:=((((((aH.set (λY=>none) .eK (me I)).set .dK (iE I t)).set .fj (.ref w)).set .given (.ref p)).set .j4 (.ref a)).set .lit (.int x))) (O rfl) (O rfl) (M.3 _ _ (s0 _ _ hp)) (aV gl (bt rfl)) (by cases decide (x∈g)<;>rfl)) λY=>hO
  rw[Bool.and_true]at this;exact this
 haveI R:=Rp no;refine B7 M (z7 (O rfl) (M.3 _ _ (s0 _ _ hw)) wl λu hu=>nE (aI (O rfl) (aI (O rfl) aX)) λQ q=>C7 (.inr ⟨a,rfl,m M,aV fl (bt rfl)⟩) (λx c=>B (wn u hu) (J x (sub x c))) q) (B R (fw _)) (λA M z=>by replace z:=R▸z;exact nf z) λA M Y=>c7 ?_
 haveI em:(Zl t.fd).map (nO λx=>-x)=Zl (t.fd.map λx=>-x):=by
  show(t.fd.map V.int).map _=(t.fd.map λx=>-x).map V.int;simp only[fk,fk];rfl
 have cn:=sT (C:=aA (k+1)) (l:=(((((aH.set (λY=>none) .eK (me I)).set .dK (iE I t)).set .fj (.ref w)).set .given (.ref p)).set .j4 (.ref a))) (x:=.lit) (it:=.var .j4) (cN:=.neg (.var .lit)) (f:=nO λx=>-x) (O rfl) (m M) lf λv i=>by
  refine az (cW.mp i) λx W=>aU W λY r=>?_;clear W;subst r;exact ig (O rfl) rfl
 simp only[em]at cn;have nm:∀{x},x∈t.fd.map (λx=>-x)↔-x∈t.fd:=λ{x}=>cW.trans ⟨λX6=>az X6 λy X7=>aU X7 λhy e=>by refine aT e ?_;rw[h_];exact hy,λh=>⟨-x,h,h_ x⟩⟩
 refine QD (Jl (gA M (O rfl) bb aX λQ q=>V_ M q) (Jf M cn λd A nd M=>Oy M ((ae.sub s0).new nd) H.bC (by rw[b9];exact fl) (λx c=>by haveI:=J _ (sub _ (nm.mp c));have:=this.1;lia) (λA bj M ae ls E=>GV ?_) λA bj ys M ae ls E td mem ly=>GV ?_))
 .haveI fa:t.fa=none:=az E λx G=>aU G λh1 h2=>f0 (.inr ⟨-x,nm.mp h1,nm.mp h2⟩);refine bL (b:=(!t.pf !=false)||((true)||false)) (mU (kj (rf rfl) λY=>kj (qa (O rfl)) nt)) (λY=>cI (qa (by refine fa▸?_;exact O rfl)) (q A bj M ae (s0.ls.tr ((Ls.new nd).tr ls)))) λz=>by rw[Bool.true_or,Bool.or_true]at z;exact nt z
 .have X:=s0.ls.tr ((Ls.new nd).tr ls);cases pf:t.pf with
  |false=>
   haveI fa:=f0 (.inl pf);haveI j:=rf (C:=aA (k+1)) (ne:=false) (A:=A) (l:=(((((((aH.set (λY=>none) .eK (me I)).set .dK (iE I t)).set .fj (.ref w)).set .given (.ref p)).set .j4 (.ref a)).set .step (oi t.fa)).set .uw (.aE (Zl ys)))) rfl;rw[pf]at j;exact bL (b:=true||false) (mU (kj j nt)) (λY=>cI (qa (B fa (O rfl))) (q A bj M ae X)) nt
  |true=>
   haveI nt:=λx c hn=>E (-x) (nm.mpr (by rw[h_];exact c)) (nm.mpr (by rw[h_];exact hn))
   refine az (f1 pf nt) λs Zv=>eI Zv λs1 s2 s3 s4=>?_;haveI ey:=s3.yL td λx=>(s4 x).trans (nm.symm.trans (mem x).symm);haveI j:=rf (C:=aA (k+1)) (ne:=false) (A:=A) (l:=(((((((aH.set (λY=>none) .eK (me I)).set .dK (iE I t)).set .fj (.ref w)).set .given (.ref p)).set .j4 (.ref a)).set .step (oi t.fa)).set .uw (.aE (Zl ys)))) rfl;rw[pf]at j;haveI e2:Ev (aA (k+1)) (((((((aH.set (λY=>none) .eK (me I)).set .dK (iE I t)).set .fj (.ref w)).set .given (.ref p)).set .j4 (.ref a)).set .step (oi t.fa)).set .uw (.aE (Zl ys))) A (.aZ (.var .dK) .cK .pC [.var .step]) (.aE (Zl (t.cs s))):=gA M (O (by rw[iE,pf];rfl:some (iE I t)=some (lL I))) (nM pf) (aI (O (by refine B s1 ?_;rfl:some (oi t.fa)=some (V.int s))) aX) (zJ M ((P pf).bp b).1 s2)
   refine bL (mU (kj j λY=>kj (qb (O rfl) λh=>nomatch h) λY=>w8)) nf λY=>c7 (cI (uB e2 (O rfl) Jy) ?_)
   exact B ((cO ey))<|q A bj M ae X
theorem Vu(h:aB C e l A λv A=>tJ A v λE=>jg A E R):aB C (.b1 .list e) l A R:=h
theorem Vq(M:cX c I Z A)(ha:Ev C l A a (.ref p))(hp:Z p=some (.list E))(j:fX C l A b ws)(m:E.length+ws.length<=bf)(k:∀a h,Z a=none->cX c I (Z.set a (.list (E++ws))) h->R (.ref a) h):aB C (.lA a b) l A R:=
 ha _ (j _ λq hq=>by
  have f:=M.dy (o:=.list ws) (.inl hq);have i:=M.dP hq;refine fh p q E ws (ee rfl rfl (f.3 _ _ ((H.a6 (Sub.ne hp i)).trans hp)) H.bC m λd hd=>?_);haveI nd:=f.dP hd;have n:d≠q:=λg=>by replace nd:=g▸nd;replace nd:=H.bC▸nd;exact ns nd
  rw[H.a6 n]at nd;refine k d _ nd ((f.dy (.inl hd)).fD λy o e=>?_);rcases cY (y=d)with g|g
  .simp only[g,H.bC]at e⊢;exact e
  .rw[H.a6 g]at e;rw[H.a6 g,H.a6 (Sub.ne e i)];exact e)
theorem V6(d:Ev C l A e (.int b))(g:fits b)(c:(gE 0 b).length<=bf)(hf:∀v∈gE 0 b,Ev C (l.set x v) A cN (f v)):fX C l A (.comp cN false [x] .eV [e] []) ((gE 0 b).map f):=λQ q=>
 d _ (aS g c (sJ trivial _ [] (λY Y=>hO) (λv h Y=>hf v h) (by simp only[k7,Nat.zero_add];exact c) λa ha=>by
  exact B ((List.filter_eq_self.mpr λY Y=>rfl))<|q a ha))
theorem aH.ah5{l:aH}:(l.set x v).set x w=l.set x w:=funext λy=>by unfold aH.set;split<;>rfl
def Gw(t:T)(ws:List (List Bool))(cs:List Int):Prop:=(∀x∈cs,a9 t x)/\∀u∈ws,cs.any (eE u)=true
theorem iz.gd(aB:iz (Wl t.n ws) cs)(l:∀x∈cs,a9 t x):Gw t ws cs:=⟨l,λu hu=>by
 exact az (aB _ ⟨u,hu,rfl⟩) λx a=>aU a λb h=>mG.mpr ⟨x,b,h.2⟩⟩
theorem aiU(M:Mem I t Z A)(S:Sb (Wl t.n ws) t)(m1:t.m<=1000000)(tC:t.pf=true->t.ps.length<=1000000)(hw:Z w=some (.list (fL ws)))(wl:ws.length<=1000)(wn:∀u∈ws,u.length=t.n)
 (q:∀af,Mem I t Z af->Q (.bool true) af):aA (k+4) .OC [me I,iE I t,.ref w] A Q:=by
 refine⟨_,rfl,gF (Vu (iP M (O rfl) bb aX (ae_ M S λA a cs na M lc uT=>?_)))⟩;have b:(jA cs).length<=1000000:=by unfold jA;rw[b9];exact aV lc m1
 refine cR (jA cs) (aS (M.3 _ _ H.bC) (aV b (bt rfl)) λd hd=>?_);haveI M':=M.dy (o:=.list (jA cs)) (.inl hd);haveI nd:=M.dP hd;have da:d≠a:=λg=>by replace nd:=g▸nd;replace nd:=H.bC▸nd;exact ns nd
 have nd:=(H.a6 da)▸nd;have M:=M'.fD (bj:=Z.set d (.list (jA cs))) λy o e=>by
  rcases cY (y=d)with g|g
  .simp only[g,H.bC]at e⊢;exact e
  .rw[H.a6 g]at e;rw[H.a6 g,H.a6 (Sub.ne e na)];exact e
 have gd:=λc p=>(uT c p).1.gd (uT c p).2;have loop:∀A d cs,Z d=none->Mem I t (Z.set d (.list (jA cs))) A->(jA cs).length<=bf->(∀c∈cs,Gw t ws c)->Ss (aA (k+3)) (Ig.drop 2) ((((aH.set (λY=>none) .eK (me I)).set .dK (iE I t)).set .fj (.ref w)).set .iq (.ref d)) A λfl Y A=>Q fl.val A:=by
  intro A d cs nd M lb gd;haveI N:∀{o},(Z.set d o) w=some (.list (fL ws)):=(H.a6 (Sub.ne hw nd)).trans hw;refine QI (λE l A=>∃r,E=jA r/\(∀c∈r,Gw t ws c)/\Mem I t (Z.set d (.list (jA cs))) A/\l .fj=some (.ref w)/\l .eK=some (me I)) (O rfl) (M.3 _ _ H.bC) lb (cR cs (e_ rfl gd M rfl rfl)) (λE l A XR=>az XR λY XS=>eI XS λY Y M Y=>M.3 _ _ H.bC) ?_ ?_
  .intro v E l A KP P G Y Y;refine az KP λr KQ=>eY KQ λe gd M R W=>?_;clear KQ;try clear KP
   cases r with
   |nil=>injection e
   |cons c r=>
    cases e;obtain⟨g1,g2⟩:=gd c (bE ..);have e1:fL (ws.filter λu=>!c.any (eE u))=[]:=Rp λu hu=>by refine B (g2 u hu) ?_;rfl
    refine B7 M (z7 (O R) (M.3 _ _ N) wl λu hu=>oH (nE (aI (O rfl) (aI (O rfl) aX)) λQ q=>NJ (.inl rfl) (λx hx=>B (wn u hu) (g1 x hx)) q) rfl) (B e1 (fw _)) (λA M z=>by replace z:=e1▸z;exact nf z) λA M Y=>c_ (G _ _ ?_).1
    exact cR r (e_ rfl (λc p=>gd c (cP _ p)) M R W)
  .intro l A Zy;exact az Zy λY Zz=>eY Zz λY Y M R W=>GK (M.fD λy o e=>(H.a6 (Sub.ne e nd)).trans e) (O W) bb aX (ait (M.fD λy o e=>(H.a6 (Sub.ne e nd)).trans e) S q)
 cases pf:t.pf with
 |false=>
  haveI J:=rf (C:=aA (k+3)) (ne:=true) (A:=A.set d (.list (jA cs))) (l:=((((aH.set (λY=>none) .eK (me I)).set .dK (iE I t)).set .fj (.ref w)).set .iq (.ref d))) rfl;rw[pf]at J;exact bL J nf λY=>c7 (loop _ d cs nd M (aV b (bt rfl)) gd)
 |true=>
  haveI J:=rf (C:=aA (k+3)) (ne:=true) (A:=A.set d (.list (jA cs))) (l:=((((aH.set (λY=>none) .eK (me I)).set .dK (iE I t)).set .fj (.ref w)).set .iq (.ref d))) rfl;rw[pf]at J;have bp:=((S.10 pf).bp S.1).1;haveI G:=tC pf;have Js:∀{A:H} {l:aH},l .dK=some (iE I t)->Ev (aA (k+3)) l A (.var .dK) (lL I):=λh=>O (h.trans (by rw[iE,pf];rfl))
  haveI rl:(gE 0 t.ps.length).length=t.ps.length:=by unfold gE;simp only[b9,mH];lia
  have er:gE 0 t.ps.length=(List.range t.ps.length).map λ(i:Nat)=>V.int i:=by
   unfold gE;exact B (by lia:((t.ps.length:Int)-0).toNat=t.ps.length) (k8 λi Y=>by rw[Int.zero_add])
  haveI e2:((gE 0 t.ps.length).map λv=>V.aE (Zl (t.cs v.num)))=jA ((List.range t.ps.length).map λ(i:Nat)=>t.cs i):=by
   rw[er];unfold jA;simp only[fk,fk];rfl
  have en:=V6 (l:=((((aH.set (λY=>none) .eK (me I)).set .dK (iE I t)).set .fj (.ref w)).set .iq (.ref d))) (x:=.bO) (cN:=.aZ (.var .dK) .cK .pC [.var .bO]) (f:=λv=>V.aE (Zl (t.cs v.num))) (gA M (Js rfl) (nM pf) aX λQ q=>ah_ M bp q) (mW (aV G (by decide))) (B rl (aV G (bt rfl))) λv hv=>by
   rw[er]at hv;refine az (cW.mp hv) λi Le=>aU Le λhi X=>?_;clear Le;subst X;have:=List.mem_range.mp hi;exact gA M (Js rfl) (nM pf) (aI (O rfl) aX) (zJ (s:=i) M bp ⟨fE _,g9.mpr this⟩)
  simp only[e2]at en;refine bL J (λY=>gF (Vq M (O rfl) H.bC en ?_ λL A j M=>?_)) nt
  .unfold jA at b⊢;simp only[b9,b9,b9,mH];rw[b9]at b;exact aV (Nat.add_le_add b G) (bt rfl)
  .have U':L≠d:=λg=>by replace j:=g▸j;replace j:=H.bC▸j;exact ns j
   rw[H.a6 U']at j;have M:=M.fD (bj:=Z.set L (.list (jA (cs++(List.range t.ps.length).map λ(i:Nat)=>t.cs i)))) λy o e=>by
    rcases cY (y=L)with g|g
    .simp only[g,H.bC]at e⊢;unfold jA at e⊢;rw[iJ]at e;exact e
    .rw[H.a6 g]at e;rw[H.a6 g,H.a6 (Sub.ne e nd)];exact e
   refine c7<|B aH.ah5<|loop A L _ j M ?_ λc p=>?_
   .unfold jA at b⊢;rw[b9]at b;simp only[b9,cx,b9,mH];exact aV (Nat.add_le_add b G) (bt rfl)
   .refine Or.elim (dT.mp p) (λh=>?_) (λh=>?_)
    .exact gd c h
    .obtain⟨i,hi,rfl⟩:=cW.mp h;haveI hs:Sn t i:=⟨fE _,g9.mpr (List.mem_range.mp hi)⟩;exact(S.11.2 pf _ hs).gd ((S.10 pf).2 _ hs).2
def Hi(C:Cx)(x:Nm)(b r:List St)(l:aH)(Q:Fl->aH->H->Prop)(v:V)(A:H):Prop:=oo .eV [v] A λws a=>oK (λv l A R=>fA false [x] v l λc=>Ss C b c A R) a ws l A (Nx C r Q)
theorem aiD(h:aB C it l A λv A=>Hi C x bd r l Q v A):Ss C (.for false [x] .eV [it] bd::r) l A Q:=h
theorem Wx(a:Int->aH->H->Prop)(c:fits b)(h0:a 0 l A)
 (step:∀i l A,i<b->a i l A->∀P:Fl->aH->H->Prop,(∀l A,a (i+1) l A->P .next l A/\P .cont l A)->(∀l A,Ss C r l A Q->P .brk l A)->(∀v l A,Q (.ret v) l A->P (.ret v) l A)->Ss C bd (l.set x (.int i)) A P)
 (bZ:∀i l A,b<=i->a i l A->Ss C r l A Q):Hi C x bd r l Q (.int b) A:=
 ⟨c,D8 b a (λi l A d e P f g h=>⟨_,rfl,step i l A d e P f g h⟩) bZ _ 0 l A rfl h0⟩
theorem V4(c:Ev C l A d (.int a))(e:Ev C l A f (.int b))(fa:fits a)(g:fits b)(h:(gE a b).length<=bf):fX C l A (.rM [d,f]) (gE a b):=λQ q=>c _ (e _ (cg fa g h λa ha=>q a ha))
noncomputable def oZ(j:Nat):List Int:=(List.range j).map λ(i:Nat)=>1+i
theorem ajr:oZ j++[((j+1:Nat):Int)]=oZ (j+1):=by
 unfold oZ;simp only[List.range_succ,iJ,List.map_cons,List.map_nil,show 1+(j:Int)=((j+1:Nat))by lia]
theorem afU(M:Mem I t Z A)(d:o9 t 0 pf)(g:n<=5)(z:l .fH=some (.int n))(h2:l .eK=some (me I))
 (q:∀E f J,hJ I f->Mem f J Z E->o9 J n pf->Ss (aA (k+7)) r l E Q):
 Ss (aA (k+7)) (.ite (.p9 true (.comp (.aZ (.var .eK) .aO .zb []) false [.pQ] .eV [.var .fH] []) (.rM [.int 1,.cJ .add (.var .fH) (.int 1)])) [.ret (.bool false)] []::r) l A Q:=by
 have lr:(gE 0 n).length=n:=by unfold gE;simp only[b9,mH];lia
 haveI cp:∀R:V->H->Prop,(∀A a f J,hJ I f->Z a=none->Mem f J (Z.set a (.list (Zl (oZ n)))) A->o9 J n pf->R (.ref a) A)->aB (aA (k+7)) (.comp (.aZ (.var .eK) .aO .zb []) false [.pQ] .eV [.var .fH] []) l A R:=λR hR=>by
  refine O (C:=aA (k+7)) z _ (aS (mW (aV g (by decide))) (B lr (aV g (bt rfl))) ?_)
  refine zN (λaY s A=>∃j f J,s=Zl (oZ j)/\hJ I f/\Mem f J Z A/\o9 J j pf/\j+aY.length=n) ?_ ?_ _ _ _ (d_ 0 I t (e_ rfl (λY=>rfl) M d (B lr (Nat.zero_add _))))
  .intro v aY s A G;refine d7 G λj m t1 L=>eY L λZA o M d u=>?_;clear L;try clear G
   subst ZA;simp only[lQ]at u;have en:=d.1;refine⟨trivial,λRR xm=>iP M (O (h2.trans (aP (λp=>some (V.ref p)) (o .aO).symm))) bb aX (afT M d.18 (by lia) λA eO h p o2 M hq hh=>xm _ A (d_ (j+1) eO _ (e_ ?_ (λc=>(o2 c).trans (o c)) M (d.ij (by lia) hq hh) (by lia))))⟩
   rw[en,j5,ajr]
  .intro s A N;refine d7 N λj m t1 P=>eY P λZD o M d u=>?_;clear P;try clear N
   subst ZD;haveI:j=n:=u;haveI this:=this.symm;subst this;exact(aS trivial (by unfold oZ;simp only[cj,b9,mH];exact aV g (bt rfl)) λa ha=>hR _ a m t1 o (M.dP ha) (M.dy (.inl ha)) d)
 have un:(oZ n).length<=1000:=by unfold oZ;rw[b9,mH];exact aV g (by decide)
 haveI W:∀x∈Zl (oZ n),∃i,x=V.int i:=λx hx=>by refine az (cW.mp hx) λi X=>aU X λY w=>?_;clear X;subst w;exact⟨i,rfl⟩
 refine tN (cp _ λA a m t1 o na M d=>?_);haveI r1:gE 1 (n+1)=Zl (oZ n):=BQ;haveI en:=V4 (C:=aA (k+7)) (A:=A) (a:=1) a8 (dz (op:=.add) (x:=n+1) (O z) a8 rfl trivial) ⟨by decide,by decide⟩ ⟨by lia,by lia⟩ (by rw[r1,cj];exact aV un (bt rfl))
 simp only[r1]at en;refine en _ λb hb=>?_;haveI M':=M.drop (o:=.list (Zl (oZ n))) hb;refine(mM a b _ _ _ (yV rfl rfl (M'.3 _ _ H.bC) H.bC (by rw[cj];exact un) (by rw[cj];exact un) W W zZ ?_))
 exact B (cO rfl) (th nf λY=>c7 (q _ m t1 o (M'.fD λy o e=>(H.a6 (Sub.ne e na)).trans e) d))
noncomputable def J0:St->List St|.for _ _ _ _ b=>b|_=>[]
noncomputable def ym:List St:=J0 (zu.getD 6 .vs)
noncomputable def HW:List St:=J0 (ym.getD 0 .vs)
def CR(C:Cx)(cN:a7)(x:Nm)(l:aH)(R:V->H->Prop)(v:V)(A:H):Prop:=oo .eV [v] A λws b=>ws.length<=bf/\oD (λv A R=>fA false [x] v l λa=>mK C [] a A R) (λv A R=>fA false [x] v l λa=>aB C cN a A R) b ws [] A λc A=>jg A c R
theorem Jg(h:aB C it l A λv A=>CR C cN x l R v A):aB C (.comp cN false [x] .eV [it] []) l A R:=h
def Lv(n f:Nat)(pf:Bool)(l:aH)(A:H)(b mb:Int)(I:bT->Nat)(t:T)(Z:H)(w:Nat)(ws:List (List Bool)):Prop:=Ht
 (Mem I t Z A)
 (Lw Z f b)
 (gQ (Wl n ws) t)
 (t.n=n)
 (t.pf=pf)
 (Z w=some (.list (fL ws)))
 (∀u∈ws,u.length=n)
 (ws.length<=32)
 (t.ok=true->∀u:List Bool,u.length=n->(∀c,Cn t c->(t.cl c).any (eE u)=true)->u∈ws)
 (t.m<=mb)
 (t.ps.length<=2*mb+t.rt)
 (l .jv=some (.ref f))
 (l .fH=some (.int n))
 (l .dK=some (iE I t))
 (l .eK=some (me I))
 (l .fj=some (.ref w))
 (∃a,l .«at»=some (.int a))
theorem gQ.uq(S:gQ W t)(u:Uq t J)(P:t.pf=true->ek J)(aB:gO W J)(hs:∀s,Sn t s->Sn J s/\J.cs s=t.cs s):gQ W J:=by
 haveI e:J.ok=t.ok/\J.hd=t.hd/\J.aK=t.aK/\J.es=t.es/\J.pf=t.pf/\J.st=t.st:=by refine gz u λY Y Y Y j=>?_;try clear u;clear P aB hs;subst j;exact ee rfl rfl rfl rfl rfl rfl
 refine iM e λd k l i h m=>⟨λf=>B k ((S.1 (d▸f)).uq u P aB),λf=>?_,λf g=>?_,λf g=>?_,λf c=>by refine m▸?_;exact S.5 (h▸f) c⟩
 .exact br (S.2 (d▸f)) λa b c=>aS (a.uq u P aB) (l.trans b) c
 .exact B i<|S.3 (d▸f) (h▸g)
 .exact az (S.4 (d▸f) (h▸g)) λs n=>br n λa b c=>⟨s,i.trans a,(hs s b).1,(hs s b).2.trans c⟩
theorem gQ.aew(S:gQ W t){r pr nt:V}(f:t.pf=true)(b:iz W c)(h:c.length<30/\∀x∈c,a9 t x)(sl:(t.ps.length:Int)+1<=14000000+t.rt):gQ W (t.add r c pr nt e):=by
 refine br (ua (t:=t) (r:=r) (pr:=pr) (nt:=nt) (c:=c) (e:=e)) λa1 a2 a=>?_;have P:=S.sb.10 f;haveI aB:=S.sb.11;refine S.uq .add (λY=>⟨f,C6 (P:=λc=>c.length<30/\∀x∈c,a9 t x) h P.2,λc b=>?_,λv s i hs=>?_,P.5,P.6,P.7,?_⟩) ⟨aB.1,λY=>C6 b (aB.2 f)⟩ λs hs=>⟨(a s hs).2,(a s hs).1⟩
 .exact gn λd=>az (P.3 c b) λs j=>eI j λs1 s2 s3 s4=>d<|(cR s (cg s1 ((a s s2).2) (B ((a s s2).1) s3) λx=>B ((a s s2).1) (s4 x)))
 .exact gn λd=>az (P.4 v s i hs) λy k=>iM k λl m n o g p=>d<|(cR y (ee l m n o ((a s g).2) ((a s g).1.trans p)))
 .show((t.ps++[_]).length)<=14000000+t.rt;refine B cx ?_;simp only[lQ,k7];lia
theorem Gs(o:hJ I a)(h:J.pf=t.pf):iE a J=iE I t:=by
 unfold iE lL;exact aT h<|B (o .cK) rfl
theorem afA(a:Lt w.length x)(h:eE w x=false):eE w (-x)=true:=by
 have x0:=a.1;haveI c:=a.2.1;haveI d:=a.2.2;have b:x.natAbs-1<w.length:=j_ (Nat.sub_lt (Int.natAbs_pos.mpr x0) (by decide)) (Or.elim (Int.natAbs_eq x) (λe=>Int.ofNat_le.mp (fp (Int.le_of_eq e.symm) d)) λe=>Int.ofNat_le.mp (Int.le_of_neg_le_neg (fp c (Int.le_of_eq e))))
 unfold eE at h⊢;rw[dZ b]at h;rw[Int.natAbs_neg,dZ b];haveI h:=gZ h;refine cO (aP some ?_);haveI:decide (0< -x)= !decide (0<x):=aT decide_not (decide_eq_decide.mpr ⟨λY Y=>by lia,λY=>by lia⟩)
 refine B this ?_;cases g:w[x.natAbs-1]<;>cases f:decide (0<x)<;>first|rfl|(rw[g,f]at h;exact absurd rfl h)
theorem RS(i:Lv n f pf l A J mb I t Z w ws)(hB:J<=7000)(hm:mb<=400000)(n0:0<n)
 (p1:∀l A I t Z w ws,Lv n f pf l A (J+7) (mb+1) I t Z w ws->P .next l A):Ss (aA (k+10)) HW l A P:=by
 refine gF (Jg (wX a8 (kL (aI (O i.12) (aI a8 aX)) (sM i.1 i.2 (by lia) (by decide) λA gI v M ae ls v0 v1=>?_))))
 obtain⟨m,ET⟩:∃m:Nat,1+v=m:=⟨(1+v).toNat,by lia⟩
 refine wu trivial ET (OI M ae (by lia) n0 i.12 i.13 (by lia) λA g_ a xs M ae rN ha W X=>?_)
 haveI afv:=ls.tr rN;haveI ae:Lw g_ f (J+7):=B (by lia:J+7=J+1+6) ae
 have Bu:∀x∈xs,a9 t x:=λx j=>by have:=X x j;unfold a9;exact i.4▸this
 have g0:∀h,Wl n (ws.filter λu=>xs.any (eE u)) h->Wl n ws h:=λh ⟨u,hu,e⟩=>⟨u,(dU.mp hu).1,e⟩;have gx:iz (Wl n (ws.filter λu=>xs.any (eE u))) xs:=λh ⟨u,hu,e⟩=>by
  obtain⟨x,j,g⟩:=mG.mp (dU.mp hu).2;exact⟨x,j,B e (⟨X x j,g⟩)⟩
 have S0:=i.3.b_ g0;refine az i.17 λG AI=>?_;have aY:∀A t1 E s y,Mem I t1 E A->Lw E f (J+7)->Ls g_ E->gQ (Wl n (ws.filter λu=>xs.any (eE u))) t1->t1.n=t.n->t1.pf=t.pf->t1.m=t.m->t1.ok=t.ok->t1.cl=t.cl->t1.rt=t.rt->(t1.ps.length:Int)<=t.ps.length+1->
  (t1.pf=false->s=none)->(t1.pf=true->(∀x∈xs,-x∉xs)->∃s0,s=some s0/\Sn t1 s0/\Td (t1.cs s0)/\∀x,x∈t1.cs s0↔x∈xs)->
  y .jv=some (.ref f)->y .fH=some (.int n)->y .dK=some (iE I t)->y .eK=some (me I)->y .fj=some (.ref w)->y .«at»=some (.int G)->y .bR=some (.ref a)->y .step=some (oi s)->Ss (aA (k+10)) (HW.drop 3) y A P:=by
  intro A t1 E s y M ae L S1 en N em eo ec er eq h0 h1 i1 i2 i3 i4 i5 i6 i7 i8;haveI Nu:=L _ _ ha;have AO:=i.10;have hq:=i.11;haveI uT:∀{c},Cn t c->Cn t1 c:=λh=>by unfold Cn at h⊢;exact B em<|h
  refine dG (dz (x:=G+1) (O i6) a8 rfl trivial)<|oX M (O i4) bb (aI (O i7) (aI (O i8) aX)) (RQ M S1 Wl.wo (λY h=>h) gx Nu (aV W (by decide)) (λx j=>by have:=Bu x j;unfold a9 at this⊢;exact en▸this) (by refine B em ?_;lia) (λY=>by refine B er ?_;lia) h0 h1 λA eO R o M aa=>?_)
  haveI n2:=aa.2.trans (en.trans i.4);haveI PI:=aa.4.trans N;haveI w2:=L _ _ (afv _ _ i.6);have wk:ws.length<=1000:=aV i.8 (by decide)
  haveI hw:=z7 (C:=aA (k+10)) (l:=(y.set .«at» (.int (G+1))).set .iq (.bool R.ok)) (it:=.var .fj) (cond:=.call .Bh [.var .bR,.var .fW]) (O i5) (M.3 _ _ w2) wk λu hu=>nE (aI (O i7) (aI (O rfl) aX)) λQ q=>NJ (.inr ⟨a,rfl,M.3 _ _ Nu,aV W (bt rfl)⟩) (λx j=>B (i.7 u hu) (X x j)) q;refine gF (hw _ λd hd=>?_);haveI nd:=M.dP hd;haveI M:=M.dy (o:=.list (fL (ws.filter λu=>xs.any (eE u)))) (.inl hd);haveI aq:=aa.5;rw[er]at aq;haveI am:=aa.3;haveI V2:Lv n f pf (((y.set .«at» (.int (G+1))).set .iq (.bool R.ok)).set .fj (.ref d)) (A.set d (.list (fL (ws.filter λu=>xs.any (eE u))))) (J+7) (mb+1) eO R (E.set d (.list (fL (ws.filter λu=>xs.any (eE u))))) d (ws.filter λu=>xs.any (eE u)):=by
   refine⟨M,ae.new nd,aa.1,n2,PI.trans i.5,H.bC,λu hu=>i.7 u (dU.mp hu).1,aV (lP ..) i.8,λok u ul hu=>?_,by lia,by lia,i1,i2,i3.trans (aP some (Gs o PI).symm),i4.trans (aP (λp=>some (V.ref p)) (o .aO).symm),rfl,⟨G+1,rfl⟩⟩
   refine br (aa.7 ok) λo1 o2 o3=>?_;haveI ih:=i.9 (aT eo o1) u ul λc hc=>by
    obtain⟨c1,c2⟩:=o2 c (uT hc);obtain⟨x,j,g⟩:=mG.mp (hu c c1);exact mG.mpr ⟨x,by refine aT ec ?_;exact(c2 x).mp j,g⟩
   refine dU.mpr ⟨ih,?_⟩;refine Or.elim o3 (λZK=>az ZK λx ZL=>aU ZL λx1 x2=>?_) (λZI=>az ZI λc ZJ=>aU ZJ λc1 c2=>?_)
   .cases g:eE u x with
    |true=>exact mG.mpr ⟨x,x1,g⟩
    |false=>exact mG.mpr ⟨-x,x2,afA (B ul (X x x1)) g⟩
   .refine az (mG.mp (hu c c1)) λx AF=>?_;haveI j:=AF.1;haveI g:=AF.2;exact mG.mpr ⟨x,(c2 x).mp j,g⟩
  haveI bZ:=p1 _ _ _ _ _ _ _ V2;cases ok:R.ok with
  |true=>
   refine bL (b:=false&&true) (gT (dC (DW (O (by refine ok▸?_;rfl:_=some (V.bool true)))) nf)) nf λY=>c_ ?_
   rw[ok]at bZ;exact bZ
  |false=>
   haveI e0:(ws.filter λu=>xs.any (eE u))=[]:=by
    cases h:(ws.filter λu=>xs.any (eE u))with
    |nil=>rfl
    |cons u r=>exact absurd ⟨u,B h (bE ..),rfl⟩ ((aa.1.2 ok).2.2 _)
   haveI en:Ev (aA (k+10)) (((y.set .«at» (.int (G+1))).set .iq (.bool R.ok)).set .fj (.ref d)) (A.set d (.list (fL (ws.filter λu=>xs.any (eE u))))) (.jf true (.var .fj)) (.bool false):=by
    haveI:=uC (C:=aA (k+10)) (ne:=true) (l:=(((y.set .«at» (.int (G+1))).set .iq (.bool R.ok)).set .fj (.ref d))) (O (x:=.fj) rfl) (M.3 _ _ H.bC) (Ro wk);rw[e0]at this⊢;exact this
   refine bL (b:=true&&(false&&true)) (gT (dC (DW (O (by refine ok▸?_;rfl:_=some (V.bool false)))) λY=>dC (mU (z9 (DW (O (by refine aT ok ?_;rfl:_=some (V.bool false)))) (z8 (by rw[ok]at en;exact en)))) nf)) nf λY=>c_ ?_
   rw[ok]at bZ;exact bZ
 haveI nz:=λx j=>(X x j).1;refine B6 (kL (aI (O rfl) aX) (Oy M ae ha (aV W (by decide)) nz (λA E M ae L hz=>yH ki ?_) λA E ys M ae L hz td mem ly=>yH ki ?_))
 .refine bL (b:=(!t.pf !=true)&&(false&&true)) (gT (dC (rf i.14) λY=>dC (qa (O rfl)) nf)) (λz=>by rw[Bool.false_and,Bool.and_false]at z;exact nf z) λY=>c7 (aY A t E none _ M ae L S0 rfl rfl rfl rfl rfl rfl (by lia) (λY=>rfl) (λY h=>by refine az hz λx aay=>aU aay λh1 h2=>?_;exact absurd h2 (h x h1)) i.12 i.13 i.14 i.15 i.16 AI rfl rfl)
 .cases pf:t.pf with
  |false=>
   haveI N:=rf (C:=aA (k+10)) (ne:=true) (A:=A) i.14;rw[pf]at N;exact bL (b:=false&&true) (gT (dC N nf)) nf λY=>c7 (aY A t E none _ M ae L S0 rfl rfl rfl rfl rfl rfl (by lia) (λY=>rfl) (λh=>by replace h:=pf▸h;exact nf h) i.12 i.13 i.14 i.15 i.16 AI rfl rfl)
  |true=>
   haveI N:=rf (C:=aA (k+10)) (ne:=true) (A:=A) i.14;rw[pf]at N;haveI bp:=((i.3.sb.10 pf).bp i.3.sb.1).1;haveI hq:=i.11;haveI gy:iz (Wl n (ws.filter λu=>xs.any (eE u))) ys:=λh hh=>by
    exact az (gx h hh) λx aaz=>aU aaz λj g=>⟨x,(mem x).mpr j,g⟩
   haveI cs:=λe=>ua (t:=t) (r:=.str "input") (pr:=.aE (Zl [])) (nt:=.int G) (c:=ys) (e:=e);refine bL (gT (dC N λY=>dC (qb (O rfl) λh=>nomatch h) λY=>hO)) (λY=>gF (iP M (O ((i.14).trans (by rw[iE,pf];rfl))) (nM pf) (aI n_ (aI (O rfl) (aI (ju aX) (aI (O AI) aX)))) (HX M bp rfl td (df (aV ly W) (by decide)) (λp h=>absurd h gh) λA e M=>c7 ?_))) nt
   refine aY A (t.add (.str "input") ys (.aE (Zl [])) (.int G) e) E (some t.ps.length) _ M ae L (S0.aew pf gy ⟨df (aV ly W) (by decide),λx j=>Bu x ((mem x).mp j)⟩ (by lia)) rfl rfl rfl rfl rfl rfl ?_ (λh=>?_) (λY Y=>cR _ (cg rfl ((cs e).2.1) (B ((cs e).1) td) λx=>B ((cs e).1) (mem x))) i.12 i.13 i.14 i.15 i.16 AI rfl rfl
   .show((t.ps++[_]).length:Int)<=_;refine B cx ?_;simp only[lQ,k7];lia
   .replace h:=pf▸h;exact nt h
def AN(R:V->H->Prop)(v:V)(A:H):Prop:=∃b,v=.bool b/\∃a,V.bool (!b)=.bool a/\(a=true->R (.bool true) A)/\(a=false->R (.bool false) A)
theorem zW(a:Ev C l A b (.bool b1))(c:b1=true->aB C d l A λv A=>AN R v A)(e:b1=false->R (.bool false) A):aB C (.and [b,.not d]) l A R:=a _ (cR b1 (aS rfl c e))
theorem H4(h:R (.bool false) A):AN R (.bool true) A:=⟨true,rfl,false,rfl,nf,λY=>h⟩
def NT(R:V->H->Prop)(v:V)(A:H):Prop:=∃b,v=.bool b/\R (.bool !b) A
theorem VA(h:aB C a l A λv A=>NT R v A):aB C (.not a) l A R:=h
theorem af3(h:R (.bool false) A):NT R (.bool true) A:=⟨true,rfl,h⟩
theorem afu(b:Lv n f pf l A E mb I t Z w ws)(hB:E<=6000)(hm:mb<=300000)(m0:0<=mb)(n0:0<n)
 (p1:∀l A I t Z w ws,Lv n f pf l A (E+50) (mb+100007) I t Z w ws->P .next l A):Ss (aA (k+10)) ym l A P:=by
 refine aiD (wX a8 (kL (aI (O b.12) (aI a8 aX)) (sM b.1 b.2 (by lia) (by decide) λA gI v M ae ls v0 v1=>?_)))
 obtain⟨m,ET⟩:∃m:Nat,1+v=m:=⟨(1+v).toNat,by lia⟩
 refine wu trivial ET (Wx (λi l A=>0<=i/\i<=m/\∃I t Z w ws,Lv n f pf l A (E+1+7*i) (mb+i) I t Z w ws) (mW (by lia)) (aS (g8 _) (fE _) (mM I t gI w ws ⟨M,by simp only[Int.mul_zero,Int.add_zero];exact ae,b.3,b.4,b.5,ls _ _ b.6,b.7,b.8,b.9,by haveI:=b.10;lia,by haveI:=b.11;lia,b.12,b.13,b.14,b.15,b.16,b.17⟩)) ?_ ?_)
 .intro i l A hi KX P p1 Y Y;refine br KX λi0 i1 ZM=>jD ZM λI t Z w ws b=>?_;try clear KX
  haveI Z':=b;exact RS Z' (by lia) (by lia) n0 λl A I t Z w ws b=>(p1 _ _ (aS (by lia) (by lia) (mM I t Z w ws (by refine B (by lia:E+1+7*(i+1)=E+1+7*i+7) ?_;refine B (by lia:mb+(i+1)=mb+i+1) ?_;exact b)))).1
 clear M ae ls;intro i l A hi KY;refine gn λkG=>br KY λi0 i1 KZ=>jD KZ λI t Z w ws b=>kG ?_;clear KZ;try clear KY
 have AO:=b.10;have hq:=b.11;have wk:ws.length<=1000:=aV b.8 (by decide)
 refine gF (Jg (kL (aI (O b.12) (aI a8 aX)) (sM b.1 (b.2.b_ (by lia:E+1+7*i<=E+43)) (by lia) (by decide) λA gI v M ae ls v0 v1=>?_)))
 obtain⟨m',rfl⟩:∃m':Nat,v=m':=⟨v.toNat,by lia⟩
 refine OI M ae (by lia) n0 b.12 b.13 (by lia) λA g_ a N M ae rN ha l3 lx=>?_
 have ae:Lw g_ f (E+50):=B (by lia:E+50=E+43+1+6) ae
 have hw:=rN _ _ (ls _ _ b.6);haveI Bu:∀x∈N,a9 t x:=λx s=>by haveI:=lx x s;unfold a9;exact B b.4<|this
 have aY:∀A y e zl,hJ I y->Mem y e g_ A->CY (Wl n ws) t e->(∀A J d j,Mem y e J A->Lw J f (E+50)->Ls g_ J->J d=some (.list (fL (ws.filter λu=>N.all (eE u))))->
  j .jv=some (.ref f)->j .fH=some (.int n)->j .dK=some (iE y e)->j .eK=some (me y)->j .fj=some (.ref w)->(∃a,j .«at»=some (.int a))->j .given=some (.ref a)->j .mO=some (.str zl)->j .ox=some (.ref d)->
  (∀A W,Mem y e W A->Lw W f (E+50)->Ls g_ W->Ss (aA (k+10)) (ym.drop 7) j A P)->Ss (aA (k+10)) (ym.drop 4) j A P)->Ss (aA (k+10)) (ym.drop 3) ((l.set .given (.ref a)).set .mO (.str zl)) A P:=by
  intro A y e zl o M R K;have G:=R.2.trans b.4;have pv:=Gs o R.3;haveI xV:=z7 (C:=aA (k+10)) (l:=(l.set .given (.ref a)).set .mO (.str zl)) (it:=.var .fj) (cond:=.call .vi [.var .given,.var .fW]) (O b.16) (M.3 _ _ hw) wk λu hu=>nE (aI (O rfl) (aI (O rfl) aX)) λQ q=>C7 (.inr ⟨a,rfl,M.3 _ _ ha,aV l3 (bt rfl)⟩) (λx s=>B (b.7 u hu) (lx x s)) q;refine gF (xV _ λd hd=>?_);have nd:=M.dP hd;haveI M:=M.dy (o:=.list (fL (ws.filter λu=>N.all (eE u)))) (.inl hd);haveI aku:=R.4;haveI akv:=R.5;haveI m2:e.m<=1000000:=by lia
  have q2:e.pf=true->e.ps.length<=1000000:=λf=>by
   haveI P2:=R.1.sb.10 f;haveI:=P2.6;haveI:=R.1.sb.1.2;lia
  have L:Sb (Wl e.n ws) e:=B G R.1.sb;refine K _ _ d _ M (ae.new nd) (.new nd) H.bC b.12 b.13 (b.14.trans (aP some pv.symm)) (b.15.trans (aP (λp=>some (V.ref p)) (o .aO).symm)) b.16 b.17 rfl rfl rfl λA W M L4 Br=>tN (VA (kL (aI (O (b.15.trans (aP (λp=>some (V.ref p)) (o .aO).symm))) (aI (O (b.14.trans (aP some pv.symm))) (aI (O b.16) aX))) (aiU M L m2 q2 (Br _ _ hw) wk (λu hu=>(b.7 u hu).trans G.symm) λA M=>af3 (th nf λY=>c7 (d9 ?_)))));refine p1 _ A y e W w ws ⟨M,L4,R.1,G,R.3.trans b.5,Br _ _ hw,b.7,b.8,λok u ul hu=>?_,by lia,by lia,b.12,b.13,b.14.trans (aP some pv.symm),b.15.trans (aP (λp=>some (V.ref p)) (o .aO).symm),b.16,b.17⟩
  obtain⟨o1,o2⟩:=R.6 ok;exact b.9 o1 u ul λc hc=>by
   obtain⟨c1,c2⟩:=o2 c hc;obtain⟨x,s,g⟩:=mG.mp (hu c c1);exact mG.mpr ⟨x,(c2 x).mp s,g⟩
 refine oX M (O b.15) bb (aI (O rfl) aX) (ain M b.3 Wl.wo l3 Bu ha (by lia) (λY=>by lia) (λA y e o M S=>?_) λA y e o M S=>?_)
 .refine aY A y e "sat" o M S.1 λA J d j M ae ls hd i1 i2 i3 i4 i5 i6 i7 i8 i9 K=>?_;have G:=S.1.2.trans b.4;have L:=S.1.1.sb;have Bt:∀{x},Lt n x->a9 e x:=λh=>by unfold a9;rw[G];exact h
  have al:∀v:Int,1<=v->v<=e.n->e.val v=1\/e.val v= -1:=λv v1 v2=>by
   haveI p:=qA v1 v2;exact B p.2.2 ((L.3.1 v ⟨by lia,v2⟩).resolve_left (S.3 v v1 v2))
  have wm:=b.9 (S.1.6 S.2).1 _ (Hc.trans G) λc hc=>by
   refine gn λkG=>?_;obtain⟨c1,c2⟩:=(S.1.6 S.2).2 c hc;obtain⟨x,x1,x2⟩:=S.4 c c1;exact kG<|mG.mpr ⟨x,(c2 x).mp x1,(Hd al (L.4.2 c x c1 x1).1).mpr x2⟩
  have fm:e.o6∈ws.filter λu=>N.all (eE u):=dU.mpr ⟨wm,iI.mpr λx s=>(Hd al (Bt (lx x s))).mpr (S.5 x s)⟩;have X:∀{A ne},Mem y e J A->Ev (aA (k+10)) j A (.jf ne (.var .ox)) (.bool (false !=ne)):=λ{A ne} M=>by
   haveI:=uC (C:=aA (k+10)) (ne:=ne) (O i9) (M.3 _ _ hd) (Ro wk);rw[show(fL (ws.filter λu=>N.all (eE u))).isEmpty=false from by
    generalize(ws.filter λu=>N.all (eE u))=F at fm;cases F with
    |nil=>cases fm
    |cons a r=>rfl]at this
   exact this
  refine bL (uB (O i8) (qc (r:=true) (X M) (λY=>n_) nt) rfl) (λz=>absurd z (by decide)) λY=>c7<|tN (zW (b1:=true) (X M) (λY=>kL (aI (O i4) (aI (O (B G<|i2:_=some (V.int e.n))) (aI (O i5) (aI (O i7) aX)))) (afJ M L.1.1 al (ls _ _ hw) wk (ls _ _ ha) l3 (λx s=>Bt (lx x s)) wm S.5 λA M=>H4 (th nf λY=>c7 ?_))) nt)
  exact tN (zW (b1:=false) (X M) nf λY=>th nf λY=>c7 (K A J M ae ls))
 .refine aY A y e "unsat" o M S.1 λA J d j M ae ls hd i1 i2 i3 i4 i5 i6 i7 i8 i9 K=>?_;have G:=S.1.2.trans b.4;have L:=S.1.1.sb;have Bt:∀{x},Lt n x->a9 e x:=λh=>by unfold a9;rw[G];exact h
  have no:=λu hu=>by
   refine gn λkG=>?_;obtain⟨x,x1,x2⟩:=S.3 _ ⟨u,hu,rfl⟩;exact kG<|List.all_eq_false.mpr ⟨x,x1,λg=>x2 ⟨lx x (S.2 x x1),g⟩⟩
  have e0:(ws.filter λu=>N.all (eE u))=[]:=List.filter_eq_nil_iff.mpr λu hu g=>by
   haveI:=iI.mpr λx s=>iI.mp g x (S.2 x s);replace this:=(no u hu)▸this;exact nf this
  replace hd:=e0▸hd;have X:∀{A ne},Mem y e J A->Ev (aA (k+10)) j A (.jf ne (.var .ox)) (.bool (true !=ne)):=λ{A ne} M=>uC (O i9) (M.3 _ _ hd) (fw _);refine bL (uB (O i8) (qc (r:=false) (X M) nf λY=>n_) rfl) (λz=>absurd z (by decide)) λY=>c7<|tN (zW (b1:=false) (X M) (λz=>nf z) λY=>th nf λY=>c7 ?_)
  have pe:=S.1.3;exact tN (zW (b1:=true) (X M) (λY=>kL (aI (O i4) (aI (O i3) (aI (O i5) (aI (O i7) aX)))) (V9 M ae L.1 L.10 (ls _ _ hw) wk (λu hu=>(b.7 u hu).trans G.symm) (ls _ _ ha) l3 (λx s=>Bt (lx x s)) S.2 S.4 no (λh=>S.5 (h.imp (λg=>pe.symm.trans g) id)) (λg=>S.6 (pe.symm.trans g)) λA W M L4 Br=>H4 (th nf λY=>c7 (K A W M L4 (ls.tr Br))))) nt)
theorem Vy(k:∀d p,A d=none->A p=none->d≠p->C .ze [.ref p] ((A.set d (.cM .cK [])).set p (.dB .cK d)) λr A=>r=.none/\R (.ref p) A):aB C (.new .cK .ze []) l A R:=k
theorem Vz(h:Ev C l A a v)(k:∀d p,A d=none->A p=none->d≠p->C .dN [.ref p,v,.none] ((A.set d (.cM .aO [])).set p (.dB .aO d)) λr A=>r=.none/\R (.ref p) A):aB C (.new .aO .dN [a,.none]) l A R:=aI h (aI ki aX) _ k
theorem ae8(tb:A gG=some (.tab none))(X:xs.length<=1000):aA (k+11) .yj [.args xs] A λv A=>v=.bool true/\∃o,A gG=some (.tab o):=by
 haveI M:cX (λY=>none) (λY=>0) A A:=⟨λaD o e=>nn e,λaD cZ o o' e=>nn e,λY Y h=>h,λa o aD o' Y e=>nn e⟩;refine⟨_,rfl,gF (kL (aI (O rfl) aX) (Wd M X tb λA Z f M ae=>?_))⟩;refine gF (wX a8 (kL (aI (O rfl) (aI a8 aX)) (sM M ae (by decide) (by decide) λA Z v M ae Y v0 v1=>?_)))
 obtain⟨n,hn⟩:∃n:Nat,2+v=n:=⟨(2+v).toNat,by lia⟩
 have y:n<=5:=by lia
 haveI n0:0<n:=by lia
 refine wu trivial hn ?_;haveI main:∀A Z I pf (pv:V) l,Mem I (t0 pf) Z A->Lw Z f 2->l .jv=some (.ref f)->l .fH=some (.int n)->l .dK=some (iE I (t0 pf))->l .eK=some (me I)->Ss (aA (k+10)) (zu.drop 4) l A λfl Y A=>fl.val=.bool true/\∃o,A gG=some (.tab o):=by
  intro A Z I pf pv l M ae z j m G;refine afU M ai3 y j G λA J t o M g=>B6 (kL (aI (O j) aX) (ajE M y λA L w M s hw=>yH a8 ?_));haveI wl:(kZ n).length<=32:=B Hb (aV (Nat.pow_le_pow_right (by decide) y) (by decide))
  haveI c:Lv n f pf ((l.set .fj (.ref w)).set .«at» (.int 0)) A 2 0 J t L w (kZ n):=⟨M,ae.sub s,g.dM,g.1,g.2,hw,λu hu=>yN.mp hu,wl,λY u ul Y=>yN.mpr ul,B g.6 (g8 _),by refine B g.13<|B g.11<|g8 _,z,j,m.trans (aP some (Gs o g.2).symm),G.trans (aP (λp=>some (V.ref p)) (o .aO).symm),rfl,⟨0,rfl⟩⟩
  refine rZ (λi l A=>0<=i/\i<=3/\∃I t Z w ws,Lv n f pf l A (2+50*i) (100007*i) I t Z w ws) a8 ⟨by decide,by decide⟩ (aS (g8 _) (by decide) (mM J t L w _ (by simp only[Int.mul_zero,Int.mul_zero,Int.add_zero];exact c))) ?_ ?_
  .intro i l A hi Q P p1 Y Y;refine br Q λi0 i1 ZN=>jD ZN λI t Z w ws c=>?_;try clear Q
   haveI Z':=c;exact afu Z' (by lia) (by lia) (by lia) n0 λl A I t Z w ws c=>(p1 _ _ (aS (by lia) (by lia) (mM I t Z w ws (by refine B ((by lia:2+50*(i+1)=2+50*i+50)) ?_;refine B ((by lia:100007*(i+1)=100007*i+100007)) ?_;exact c)))).1
  .exactλi l A _ ⟨_,_,_,_,_,_,_,c⟩=>cI gU ⟨rfl,c.2.2.elim (λe=>⟨_,c.1.3 _ _ e⟩) λXH=>az XH λY XI=>aU XI λe Y=>⟨_,c.1.3 _ _ e⟩⟩
 have eK:∀A Z K C pf s r pn ps l,(pf=true->K=[(s,.dB .cK r),(r,.cM .cK (Ft ps pn)),(pn,.list [.int 0]),(ps,.list [])])->(Lm C K A)->Sub Z C->Lw Z f 2->l .jv=some (.ref f)->l .fH=some (.int n)->l .dK=some (cond pf (.ref s) .none)->Ss (aA (k+10)) (zu.drop 3) l A λfl Y A=>fl.val=.bool true/\∃o,A gG=some (.tab o):=by
  intro A Z K C pf s r pn ps l R N sb ae z j m;refine gF (Vz (O m) λd q dn E ne=>ahV (Lm.new dn E ne) λx sn us A W=>⟨rfl,?_⟩);have M:=aev K pf R (N.OY W);exact main A Z (Qa x q d sn us s r pn ps) pf (cond pf (.ref s) .none) (l.set .eK (.ref q)) (M.fD sb) ae z j (m.trans (by clear R m W M;cases pf<;>rfl)) rfl
 refine gF (Jh (aI (O rfl) (aI a8 aX)) (sM M ae (by decide) (by decide) λA Z v M ae Y v0 v1=>NW (λY=>?_) λY=>?_))
 .refine Vy λd q dn E ne=>aiT (Lm.new dn E ne) λa b ka N=>⟨rfl,?_⟩;exact eK ka Z _ A true q d b a _ (λY=>rfl) N M.3 ae rfl rfl rfl
 .exact ki _ (eK A Z [] A false 0 0 0 0 _ (nf) .nil M.3 ae rfl rfl rfl)
section
open PySem PySem.W PySem.Calls PyProof.Rows
theorem aey:∀{E:List Value},WShape.hasItems [] ws .int=true->WellAll P h E ws->∃xs:List Int,xs.length=ws.length/\bX g h (xs.map .int) E:=by
 induction ws with
 |nil=>intro E Y hw;cases hw;exact⟨[],rfl,.nil⟩
 |cons w ws ih=>
  intro E e hw;have e:=e;cases hw with
  |cons a b=>
   refine b2 e λc d=>az (hasW_int c) λi q=>az (ih d b) λxs z=>?_;subst q;cases a with
   |int _ t=>exact⟨i::xs,aP (·+1) z.1,.cons _ _ _ _ (.int i t) z.2⟩
theorem ad8(ws:List WData):(WTm.not (.lt (.lit (.int 63)) (.len (.arg 0)))).holds [] {args:=[.list ws]}=(WTm.lit (.bool !decide ((63:Int)< (ws.length:Int)))).holds [] {args:=[.list ws]}:=by kernel_rfl
theorem ad9(ws:List WData):(WShape.has [] (.bool true) .bool&&WTm.holds [] (.eq .res (.lit (.bool true))) {args:=[.list ws],res:=some (.bool true),after:=[.list ws]})=true:=by kernel_rfl
set_option tactic.hygienic true in
theorem Us(hr:((recsOf qv).find? λe=>e.name==PS "_law_clause").isSome=true)(hp:(pg.main.scope.names.lookup (PS "super")).isSome=false){l c:Shared}(T:Top qv (looseW qv []) (ExcName.means l.heap) mg mb c.heap)(Y:YP c.heap)(Q:c.gens= #[])
 (hm:mg (PS "law")=some (.ref a)) (R:yC.claim.pre args=true) (hw:WellAll w.params c.heap E args):
 codeAny (model pg w) callerA (.call (.ref a) ⟨E,[]⟩) (GoodWG yC.claim (classAt l.heap) (ExcName.means l.heap) args c) c:=by
 obtain⟨K,a7,nt,m,W,I,s,u,x⟩:=Y;refine b2 m λX Z=>?_;obtain⟨d,hr⟩:=Option.isSome_iff_exists.mp hr;have tb:=tab_of T a7 hr (bq X);have i:TabsAt [(oR,gG)] c.heap:=λq hq=>by rw[cL.mp hq];exact tb
 obtain⟨p1,p2⟩:=pre_splitW R;obtain⟨d0,r0,rfl,q1,q2⟩:=hasAllW_cons p1;obtain rfl:=hasAllW_nil q2;obtain⟨ws,rfl,q3⟩:=hasW_list q1;have oO:ws.length<=63:=by
  have z:=(ad8 ws).symm.trans (holds_andW p2).1;exact Nat.le_of_not_lt λn=>Mp.nt (z.symm.trans (aP (λb=>(WTm.lit (.bool !b)).holds [] {args:=[.list ws]}) (cO (g9.mpr n))))
 cases hw with
 |cons y hn=>
 cases hn;cases y with
 |list ho y=>
 rename_i J aj
 have j:=ghost_top i T;obtain⟨bm,ob,b1,b2,b3,b4,b5,L⟩:=j.bmain;have ne:∀{b o},(ghostOf c.heap [(oR,gG)]).get? b=some o->b≠gG:=λ{b o} e q=>by
  rw[q,show(ghostOf c.heap [(oR,gG)]).get? gG=none from hideAll_none [gG] (bE ..)]at e;cases e
 have ng:bm≠mainGlobals:=λq=>by
  obtain⟨o,es,ep,e,hd,_⟩:=j.g;rw[<-q,b3]at e;cases e;rw[L]at hd;cases hd
 let g:Gd:={
  prog:=pg,w:=w,K:=K,ar:=[(J,eT aj 0)]
  p:=topProg,loose:=_,mg:=mg,mb:=mb,gB:=ghostOf c.heap [(oR,gG)],OX:=_,T:=j
  a7:=ghost_K i a7 nt
  arg:=λp hp=>by
   rw[cL.mp hp];exact ghost_get i ho (λq=>by cases q)
  vo:=j.nolimit
  mn:=(ghost_code i).1
  bmain:=⟨bm,ob,b1,b2,ng,ne b3,b3,b4,b5,L⟩}
 obtain⟨xs,lx,C⟩:=aey (g:=g) q3 y;have ck:o7 g:=Uz u x W;have ha:a=fi .yj:=by
  have:=ck.3 .yj rfl;rw[show PS (aJ.nm .yj)=PS "law"from rfl,show g.mg=mg from rfl,hm]at this;exact Value.ref.inj (dH this)
 subst ha;have M:vX g:=aeu hp I s u x Z;have fr:∀f:aJ,f≠.dN->tT g f:=λf hf=>Wv I (Bx (p:=λf=>K.lookup (fi f)) (aP Prod.fst s) f) (Bx (q:=λf=>yG f (ny K f)) (aP Prod.snd s) f) (aP Prod.fst u) (aP Prod.fst x) hf;let A:H:=dF (λY=>none) gG (some (.tab none));have st:A gG=some (.tab none):=fC;have sn:∀{b},b≠gG->A b=none:=λh=>dA h;have lo:Lo g c A c:=⟨
  rfl,
  λb o e=>(wC (sn (ne e))).trans (of_hideAll _ e),
   Nat.le_of_eq (hideAll_size _ _),
  λb o e=>by
  by_cases q:b=gG
  .subst q;rw[st]at e;cases e;exact⟨_,tb.2,.GW⟩
  .rw[sn q]at e;exact nn e,
    λb aF e=>by
  by_cases q:b=gG
  .subst q;rw[st]at e;cases e
  .rw[sn q]at e;exact nn e⟩
 refine IB ck (Dy ck fr M 10) (fr .yj (by decide)) (Ir ck (Dy ck fr M 10)) ⟨rfl,by decide,by decide⟩ (ae8 st (by rw[lx];exact aV oO (by decide))) lo
  (.inl ⟨by decide,.cons _ _ _ _ (.args J xs aj 0 (bE ..) C) .nil⟩) λ{av ae hL hk gl bu v cv af q1 s'} q t k r=>?_
 obtain⟨rfl,o',ht⟩:=q;cases r;have N:=λb o n e=>k.2 b o ((wC (sn n)).trans e);have G:s'.gens= #[]:=by rw[k.1];exact Q
 obtain⟨co,P,c2⟩:=k.5 _ _ ht;obtain⟨ps,rfl⟩:∃ps,co=tabObj ps:=by cases c2<;>exact⟨_,rfl⟩
 refine⟨.inl ⟨_,.bool true,[],rfl,λY=>rfl,.bool true,ad9 ws,λY=>⟨List.nodup_nil,λY h=>nomatch h⟩⟩,⟨λb o e=>?_,λb o e=>?_⟩,?_,.of_eq G⟩
 .by_cases n:b=gG
  .subst n;rw[tb.2]at e;cases e;exact .inr (.inl ⟨(tb.1.tab tb.2).isCodeTable,rfl,#[],ps,rfl,by rw[Array.empty_append];exact P⟩)
  .exact .inl (N b o n e)
 .by_cases n:b=gG
  .subst n;exact⟨_,P⟩
  .exact⟨o,N b o n e⟩
 .rw[k.1];rfl
theorem ac6:LeftO pg qv [] (λY=>true) (λs=>YP s.heap) (λY=>True) 8800:=afa (congrArg (λf (t:SharedT)=>f qv [] (importedModules pg.main.body) (λY=>true) true t.abs) Fast.te4187177175401517315) rfl rfl rfl ac9 ac3 ac8 adl ada adb ade adf adg adh
theorem ac_:PySem.Challenge.rw_no0025_01.row.Holds:=
 holds_open (r:=PySem.Challenge.rw_no0025_01.row) (q:=qv) (loose:=[]) (Xt:=λY=>true) (XP:=λY Y=>True) (Yf:=λs=>YP s.heap) (Ya:=λY=>True) (YP:=λY h=>YP h) (N:=8800) (d:=dL) (kwd:=[]) ac6 (λY Y e=>of_eq_true e)
  (λ_ _ _ ⟨K,x,n,c⟩ k=>⟨K,x.keeps k,n,c⟩) (λY Y=>trivial) (λY Y Y Y Y=>trivial) Np adm ac4 (λY Y=>recFacts_nil rfl) rfl (row_said Nq) ac1 ac2 ac'
  λw t u mg mb G Y a o pm cd doc v kV y hd z A b g args i as j l m f p=>enter_call (Us ac5 adk G.T Y g (defOf_name Np▸b) j f)
end
end Mp
set_option maxRecDepth 100000 in
theorem PySem.Challenge.cw_no0025_01_holds : PySem.Challenge.rw_no0025_01.Holds :=
 ⟨Mp.Nq,Mp.ac_⟩
