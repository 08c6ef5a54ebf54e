/- FnDiskRise: recovery is idempotent. (part 3 of 7: JkIter3, JkWalk5, JkIns0, JkPu0, JkEqS, JkHand3, JkHand4, JkChecks, JkChecks2, JkIns3, JkDel, JkTight, JkPu1) Conditions: none beyond the statement. -/
import Derived.Test.YthhecoidfjkmeaaGreatDoorZFnDiskRise1
import Derived.Laws.CopyRow
import Derived.Lib.AppendZerosOnto
import Derived.Lib.Overlaps
import Derived.Laws.Externs
import Derived.Laws.StructEq
import Derived.Below
import Derived.Lib.IndexAny
set_option linter.unusedVariables false
set_option linter.unusedSimpArgs false
namespace Go.Jk
section
variable {P:Program}{C:io}{b1 b2 b3 l k:Nat}{p:ByteArray}{dv gv:TypeId}{c:UInt8}{r e4:B}{M:Array Value}{W:World}
theorem wN{a b:List Nat}(h:fv a b=true){t:Nat}(ay:t∈a):t∉b:=fun an=>by have:=sX ay an;rw[h] at this;cases this
theorem wrap_small{n:Int}(h:0<=n)(h2:n<=4611686018427387905):IntKind.i64.wrap n=n:=by
 have e1:IntKind.i64.bits=64:=rfl;have e2:IntKind.i64.signed=true:=rfl;unfold IntKind.wrap;simp only[e1,e2,Bool.true_and,dW];have bE:(2^64:Int)=18446744073709551616:=by decide
 have dN:(2^(64-1):Int)=9223372036854775808:=by decide
 rw[bE,dN];have:n%18446744073709551616=n:=Int.emod_eq_of_lt h (by omega)
 rw[this];rw[if_neg (by omega)]
theorem an0(H:aT P C.toCtx){cO:FuncId}{fn:Func}{k:Nat}{A r5 c6 r7 r9:Code}{o0 o1 o2 o3 q0 q1 q2:Oper}{pA p5 p6 p7 p9 t7 t8 a1 a2 t41 t42 u1 u2:Nat}{ty D9:Array TypeId}
  (T:aml P C cO fn k A r5 c6 r7 r9 o0 o1 o2 o3 q0 q1 q2 pA p5 p6 p7 p9 t7 t8 a1 a2 t41 t42 u1 u2 ty D9) (arO:fv [ib] (cJ A++(cJ r5++(cJ c6++(cJ r7++cJ r9))))=true) (aCN:t7≠t8/\t7≠0/\t8≠0/\t41≠t7/\t41≠0):wJ P cO:=by
 refine⟨T.ac8,?_⟩;intro l b1 b2 b3 p s c dv eW gv W ft kq hp hlen jt ME js h1 h2 h3 sE aex aer aeq round ac2;obtain⟨i8,i10,t_⟩:=T.body;have yt:=T.yt;simp only[bz] at yt;obtain⟨axU,axY,axX,axW,axV⟩:=yt;have four:∀{t:Nat},t<4->t∈[0,1,2,3]:=fun {t} h=>by
  have:t=0\/t=1\/t=2\/t=3:=by omega
  rcases this with rfl|rfl|rfl|rfl<;>simp
 have rW:∀t,t<4->t∉cJ A/\t∉cJ r5/\t∉cJ c6/\t∉cJ r7/\t∉cJ r9:=fun t ay=>by
  have:=wN T.wr (four ay);simpa only[bo,not_or] using this
 have rU:ib∉cJ A/\ib∉cJ r5/\ib∉cJ c6/\ib∉cJ r7/\ib∉cJ r9:=by
  have:=wN arO (List.mem_singleton.2 rfl);simpa only[bo,not_or] using this
 have CS:∀{r e4:B} {M:Array Value} {W:World} {E5:List Nat} {au:ao} {c':Act} {w':World},jO b1 b2 b3 p dv gv l k r M W->(∀t,t<4->t∉E5)->ib∉E5->eX W [b2] (fun _=>False) [] M E5 au c' w'->(fF k []).ex au=some (lx k c e4)->
   c'.defers=[]/\jO b1 b2 b3 p dv gv l k e4 c'.tmps w'/\Fr [b2] W w':=by
  rintro r e4 M W E5 au c' w' I aa hm ⟨a',ec,dp,F,eg,bx,fB,⟨ayO,ho⟩,S,kept⟩ hex;have aza:=ho hm;subst aza;obtain⟨iN,iC,_⟩:=Shape.gK S hex;have jA:=az.BY bx I.ly iC;exact⟨ayO,I.of jt js jA (fun t ay=>kept t (aa t ay)) rfl,jA.frame⟩
 refine callsIn_of_wp_marks T.ZR t_ trivial ?_ rfl;obtain⟨fa,ul⟩:∃fa,(#[.func (.yield l) #[] #[]]++#[.pointer (some ⟨b1,0,none⟩),.pointer (some ⟨b2,0,none⟩),.pointer (some ⟨b3,0,none⟩)]++
   Array.replicate (fn.ntmps-(#[Value.func (.yield l) #[] #[]]++#[Value.pointer (some ⟨b1,0,none⟩),Value.pointer (some ⟨b2,0,none⟩),Value.pointer (some ⟨b3,0,none⟩)]:Array Value).size) undef:Array Value)=fa:=⟨_,rfl⟩
 rw[ul];have cU:=T.cU;have aeE:jO b1 b2 b3 p dv gv l k s.data.toList fa W:=by
  refine⟨?_,?_,?_,?_,?_,h1,⟨s,eW,h2,rfl⟩,h3,aer _ _ ac2⟩
  ·rw[<-ul,T.nt];simp;omega
  ·rw[<-ul];simp[Array.getD_eq_getD_getElem?,Array.getElem?_append]
  ·rw[<-ul];simp[Array.getD_eq_getD_getElem?,Array.getElem?_append]
  ·rw[<-ul];simp[Array.getD_eq_getD_getElem?,Array.getElem?_append]
  ·rw[<-ul];simp[Array.getD_eq_getD_getElem?,Array.getElem?_append]
 obtain⟨R,hR⟩:∃R:Ending->World->Prop,R=fun e dr=>(∃v,e=.returned v)/\(ft [] dr\/kq dr):=⟨_,rfl⟩
 rw[<-hR];have fin:∀(M:Array Value) (dr:World),(ft [] dr\/kq dr)->LeavesInM (e8 none) 0 P fn M R [] .returning dr:=fun M dr h=>by
  refine⟨.tuple #[],Pu (outs:=[]) (by rw[T.fH]) (rv:=[]) (by simp),?_⟩
  rw[hR];exact⟨⟨_,rfl⟩,h⟩
 refine wpIn_seq (j5 (rn:=none) H A pA (.inr axU) T.k7.1 W [b2] _ (nW k c s.data.toList) _ fa W [] (Dy k) _ (T.er c s.data.toList) (aeE.jP jt js hp) ?_);intro aBy aBK aBN aDp M_ acK;cases aBy with
 |exit id st=>cases M_
 |ret st=>cases M_
 |norm aC1=>
 cases aBK<;>try exact acK.elim
 obtain⟨Oo,aB1,aB8⟩:=CS aeE (fun t ay=>(rW t ay).1) rU.1 acK M_
 have aBX:=sE _ _ _ ac2 aB8;obtain⟨axE,azx⟩:=aBN;have Oo:azx=[]:=Oo;subst Oo;have last:∀{r:B} {M:Array Value} {W:World},jO b1 b2 b3 p dv gv l k r M W->ft [r] W->gI none P (.region i10 #[q0,q1,q2] false) (bodyPostM (e8 none) 0 P fn R) ⟨M,[]⟩ W:=by
  intro r M W I hj;refine wpIn_region ?_
  rw[show List.range (#[q0,q1,q2]:Array Oper).size=[0,1,2] from rfl]
  have S:=(I.jP jt js hp).nA (t:=0) (v:=cf (.de (.func (.yield l) #[] #[]))) (show M.getD 0 undef=_ from I.dT)
  have g4:q0.guard=none:=T.aY.2.2.2.2.1;have g5:q1.guard=none:=T.aY.2.2.2.2.2.1;have g6:q2.guard=none:=T.aY.2.2.2.2.2.2;simp only[wpOpsIn,List.getElem?_toArray,List.getElem?_cons_zero,List.getElem?_cons_succ,Region.wanted,g4,g5,g6,if_true];refine UJ H (T.EZ c r _) S ?_
  intro ca w' jd a_ N2 N1 xQ kept cA;have OF:jO b1 b2 b3 p dv gv l k r ca w':=I.of jt js cA (fun t ay=>kept t (wN T.ad7 (four ay))) rfl
  have aB0:=sE _ _ _ hj cA.frame;obtain⟨s2,ade,h2',rX⟩:=OF.h2;refine RC T.d5 N2 N1 (round r [] w' jd aB0 (Array.getElem?_eq_some_iff.1 OF.h1).1 (Array.getElem?_eq_some_iff.1 h2').1 (Array.getElem?_eq_some_iff.1 OF.h3).1 xQ) ?_
  rintro e w2 (⟨rfl,g,_⟩|⟨rfl,g⟩)
  ·exact⟨_,rfl,fin _ _ (.inl g)⟩
  ·exact⟨_,rfl,fin _ _ (.inr g)⟩
 refine wpIn_seq (wpIn_block (wpIn_loop (I:=fun a W=>∃r M,a=⟨M,[]⟩/\jO b1 b2 b3 p dv gv l k r M W/\ft (bO c r) W/\r.length<=kZ)
  (μ:=fun a W=>match W.heap[b2]? with|some (.cells cur _ _)=>(match cur.toList with|[.string s]=>s.data.toList.length|_=>0)|_=>0) ⟨_,axE,rfl,aB1,aBX,hlen⟩ ?_))
 rintro a W ⟨r,M,rfl,I,hj,mY⟩;have MM:(match W.heap[b2]? with|some (.cells cur _ _)=>(match cur.toList with|[.string s]=>s.data.toList.length|_=>0)|_=>0)=r.length:=by
  obtain⟨s2,ade,h2',rX⟩:=I.h2;rw[h2'];simp only;rw[rX]
 rw[MM];have auJ:∃fH,exec C r5 p5 (nW k c r) (Dx C k t7 t8 c6 r7 p6 p7)=some fH/\((fH=.inl (lx k c r)/\bO c r=[r])\/∃i x,fH=.inr ((i,x),lx k c r)/\0<=i/\i.toNat<r.length/\x=r.take i.toNat/\bO c r=x::bO c (r.drop (i.toNat+1))):=by
  rw[T.hB];by_cases hi:Lib.indexByte r c<0
  ·simp only[hi,decide_true,ad];exact⟨_,rfl,.inl ⟨rfl,agt hi⟩⟩
  ·simp only[hi,decide_false,ak];obtain⟨g1,g2⟩:=ags (c:=c) (s:=r) (by omega)
   have hw:IntKind.i64.wrap (Lib.indexByte r c+0)=Lib.indexByte r c:=by rw[Int.add_zero];exact wrap_small (by omega) (by unfold kZ at mY;omega)
   have eF:bq r 0 (IntKind.i64.wrap (Lib.indexByte r c+0))=some (r.take (Lib.indexByte r c).toNat):=by
    rw[hw];unfold bq;rw[if_pos ⟨by omega,by omega,by omega⟩];simp
   rw[eF];exact⟨_,rfl,.inr ⟨_,_,rfl,by omega,g2,rfl,g1⟩⟩
 obtain⟨fH,kG,Xm⟩:=auJ;refine wpIn_block (wpIn_seq (j5 (rn:=none) H r5 p5 (.inr axY) T.k7.2.1 W [b2] _ (nW k c r) _ M W [] (Dx C k t7 t8 c6 r7 p6 p7) _ kG (I.jP jt js hp) ?_));intro EW fp a5 ss x0 acL;cases EW with
 |exit id st=>cases x0
 |ret st=>cases x0
 |norm axK=>
 cases fp<;>try exact acL.elim
 obtain⟨EU,Oh,lB,ld,aeG,qJ,aBT,⟨On,azA⟩,vf,sB⟩:=acL;obtain⟨axF,azy⟩:=a5;have On:azy=aeG.map mark++[]:=On;subst On;refine wpIn_seq (j5 (rn:=none) H c6 p6 (.inr axX) T.k7.2.2.1 EU Oh lB axK ld axF ss _ (xN C k t7 t8 r7 p7) _ x0 vf ?_);intro ys od yG pi uS uQ;have uQ:=fD.trans qJ aBT azA sB uQ;cases ys with
 |ret st=>cases uS
 |exit id aby=>
  cases od<;>try exact uQ.elim
  obtain⟨aup,aum⟩:=uQ;subst aup;cases hid:Nat.beq id 2 with
  |false=>simp[xN,hid] at uS
  |true=>
   have hid:=ce hid;subst hid;simp only[xN,Nat.beq_refl,ad] at uS;obtain⟨y,hy,xP⟩:=Option.map_eq_some_iff.1 uS;rcases Xm with⟨rfl,hs⟩|⟨i,x,rfl,_⟩
   ·cases xP;obtain⟨d6,aB2,aCa⟩:=CS I (fun t ay=>by simp only[bo,not_or];exact⟨(rW t ay).2.1,(rW t ay).2.2.1⟩) (by simp only[bo,not_or];exact⟨rU.2.1,rU.2.2.1⟩) aum hy
    obtain⟨abv,NA⟩:=yG;have d6:NA=[]:=d6;subst d6;have:=last aB2 (by rw[<-hs];exact sE _ _ _ hj aCa)
    exact this
   ·cases xP
 |norm aby=>
 cases od<;>try exact uQ.elim
 simp only[xN] at uS;obtain⟨u_,Z,yH,abg,aeF,ON,aBS,⟨Om,azz⟩,yI,sA⟩:=uQ;obtain⟨abv,NA⟩:=yG;have Om:NA=aeF.map mark++[]:=Om;subst Om;refine wpIn_seq (j5 (rn:=none) H r7 p7 (.inr axW) T.k7.2.2.2.1 u_ Z yH aby abg abv pi _ (Ln k t7 t8) _ uS yI ?_);intro N' oc yF jY ll qt;have qt:=fD.trans ON aBS azz sA qt;cases N' with
 |exit id st=>cases ll
 |ret st=>cases ll
 |norm axJ=>
 cases oc<;>try exact qt.elim
 simp only[Ln] at ll;split at ll;case h_2=>cases ll
 rename_i i x ayJ ayd;obtain⟨y,hy,xP⟩:=Option.map_eq_some_iff.1 ll;rcases Xm with⟨rfl,_⟩|⟨aDx,iQ,rfl,q1,q2,dU,ni⟩
 ·cases xP
 cases xP;have aul:=qt;obtain⟨d7,OE,aB9⟩:=CS I (fun t ay=>by simp only[bo,not_or];exact⟨⟨(rW t ay).2.1,(rW t ay).2.2.1⟩,(rW t ay).2.2.2.1⟩)
  (by simp only[bo,not_or];exact⟨⟨rU.2.1,rU.2.2.1⟩,rU.2.2.2.1⟩) qt hy
 obtain⟨aBn,aDy,aDE,awW,aDF,_,_,_,po,_⟩:=aul;have aea:=R_ po ayJ;obtain⟨jd,aBo,xQ⟩:=R9 po ayd;obtain⟨Mx,qz⟩:=yF;have d7:qz=[]:=d7;subst d7;have aeB:=sE _ _ _ hj aB9;rw[ni] at aeB;refine wpIn_seq (wpIn_seq (wpIn_region ?_));rw[show List.range (#[o0,o1,o2,o3]:Array Oper).size=[0,1,2,3] from rfl]
 have g0:o0.guard=none:=T.aY.1;have g1:o1.guard=none:=T.aY.2.1;have g2:o2.guard=none:=T.aY.2.2.1;have g3:o3.guard=none:=T.aY.2.2.2.1;simp only[wpOpsIn,List.getElem?_toArray,List.getElem?_cons_zero,List.getElem?_cons_succ,Region.wanted,g0,g1,g2,g3,if_true];have E7:=(((OE.jP jt js hp).nA (t:=t7) (v:=one (.int .i64 i)) (by rw[show Mx.getD t7 undef=_ from aea];exact .int _ _)).nA (t:=t8) (v:=one (.str x)) (by rw[show Mx.getD t8 undef=_ from aBo];exact .str _ _ xQ)).nA (t:=0) (v:=cf (.de (.func (.yield l) #[] #[]))) (show Mx.getD 0 undef=_ from OE.dT)
 refine UJ H (T.bp c r i x _) E7 ?_
 intro kN ph axn xx N2 N1 at1 W8 pq;have uG:∀t,t∈[0,1,2,3,t7]->t∉o0.dst.toList++o1.dst.toList/\t∉o3.dst.toList/\t≠t41:=fun t ay=>by
  have:=wN T.ad8 ay;simp only[bo,List.mem_singleton,not_or] at this;exact⟨by simp only[bo,not_or];exact⟨this.1,this.2.1⟩,this.2.2.1,this.2.2.2⟩
 have LH:∀{t:Nat},t<4->t∈[0,1,2,3,t7]:=fun {t} h=>by
  have:=four h;simp only[bR,List.not_mem_nil,or_false] at this ⊢;rcases this with h|h|h|h<;>simp[h]
 have m7:t7∈[0,1,2,3,t7]:=by simp
 have kS:jO b1 b2 b3 p dv gv l k r kN ph:=OE.of jt js pq (fun t ay=>W8 t (uG t (LH ay)).1) rfl
 have v87:kN.getD t7 undef=.int .i64 i:=(W8 t7 (uG t7 m7).1).trans aea;have aBY:=sE _ _ _ aeB pq.frame;obtain⟨s2,ade,h2',rX⟩:=kS.h2;refine RC T.c2 N2 N1 (round x _ ph axn aBY (Array.getElem?_eq_some_iff.1 kS.h1).1 (Array.getElem?_eq_some_iff.1 h2').1 (Array.getElem?_eq_some_iff.1 kS.h3).1 at1) ?_
 have behind:∀(b:Bool) (iy:World),jO b1 b2 b3 p dv gv l k r (cQ kN o2.dst (.bool b)) iy->(b=true->ft (bO c (r.drop (i.toNat+1))) iy)->(b=false->kq iy)->∀Q:Exit->Act->World->Prop,
   (∀a w,a.defers=[]->kq w->Q .ret a w)->(∀qm w2,jO b1 b2 b3 p dv gv l k (r.drop (i.toNat+1)) qm w2->ft (bO c (r.drop (i.toNat+1))) w2->Q .normal ⟨qm,[]⟩ w2)->
   o3.wpIn (e8 none) 0 P ⟨cQ kN o2.dst (.bool b),[]⟩ iy (Exit.then (fun a w=>gI none P (.cond (.tmp t42) .ret .skip) (Exit.then (fun a w=>gI none P r9 Q a w) Q) a w) (Exit.then (fun a w=>gI none P r9 Q a w) Q) .normal)
    (Exit.then (fun a w=>gI none P (.cond (.tmp t42) .ret .skip) (Exit.then (fun a w=>gI none P r9 Q a w) Q) a w) (Exit.then (fun a w=>gI none P r9 Q a w) Q)):=by
  intro b iy aeC se ayU Q rI arM;have vb:(cQ kN o2.dst (.bool b)).getD t41 undef=.bool b:=by
   rw[T.d2];have:t41<kN.size:=by rw[kS.size];exact T.Li
   simp[cQ,Array.getD_eq_getD_getElem?,this]
  have axA:(cQ kN o2.dst (.bool b)).getD t7 undef=.int .i64 i:=by
   rw[jE (by rw[T.d2];simp;exact(uG t7 m7).2.2)];exact v87
  have yJ:=(aeC.jP jt js hp).nA (t:=t41) (v:=one (.bool b)) (by rw[show(cQ kN o2.dst (.bool b)).getD t41 undef=_ from vb];exact .bool _)
  refine anR H (T.h3 c r b) yJ ?_
  intro w1 D6 asf abt VK lr;have adJ:jO b1 b2 b3 p dv gv l k r w1 D6:=aeC.of jt js lr (fun t ay=>VK t (uG t (LH ay)).2.1) rfl
  have v107:w1.getD t7 undef=.int .i64 i:=(VK t7 (uG t7 m7).2.1).trans axA;cases b with
  |false=>
   have x1:=aex _ _ (ayU rfl) lr.frame;exact wpIn_cond (t:=true) abt (wpIn_ret (rI _ _ rfl x1))
  |true=>
   have x1:=sE _ _ _ (se rfl) lr.frame;refine wpIn_cond (t:=false) abt (wpIn_skip ?_);have nk:=(adJ.jP jt js hp).nA (t:=t7) (v:=one (.int .i64 i)) (by rw[show w1.getD t7 undef=_ from v107];exact .int _ _)
   have eF:bq r (IntKind.i64.wrap (i+(([c]:B).length:Int))) r.length=some (r.drop (i.toNat+1)):=by
    have e1:(([c]:B).length:Int)=1:=rfl;rw[e1,wrap_small (by omega) (by unfold kZ at mY;omega)]
    unfold bq;rw[if_pos ⟨by omega,by omega,by omega⟩]
    have e2:(i+1).toNat=i.toNat+1:=by omega
    simp[e2]
   have yA:=T.yA c r i;rw[eF] at yA;refine j5 (rn:=none) H r9 p9 (.inr axV) T.k7.2.2.2.2 D6 [b2] _ _ _ w1 D6 [] (Dy k) _ yA nk ?_
   intro Ed Nx NE axw Lz Z3;cases Ed with
   |exit id st=>cases Lz
   |ret st=>cases Lz
   |norm aCC=>
   cases Nx<;>try exact Z3.elim
   obtain⟨d11,aAO,aBd⟩:=CS adJ (fun t ay=>(rW t ay).2.2.2.2) rU.2.2.2.2 Z3 Lz
   obtain⟨atC,auH⟩:=NE;have d11:auH=[]:=d11;subst d11;exact arM atC axw aAO (sE _ _ _ x1 aBd)
 have same:∀{b:Bool} {iy:World},jg iy [b2] (fun _=>False)->ph.heap.size<=iy.heap.size->iy.heap[b1]? =ph.heap[b1]? ->iy.heap[b2]? =ph.heap[b2]? ->iy.heap[b3]? =ph.heap[b3]? ->jO b1 b2 b3 p dv gv l k r (cQ kN o2.dst (.bool b)) iy:=by
  intro b iy g9 _ e1 e2 bE;have o7:∀t,t<4->(cQ kN o2.dst (.bool b)).getD t undef=kN.getD t undef:=fun t ay=>jE (by rw[T.d2];simp;exact(uG t (LH ay)).2.2)
  refine⟨?_,(o7 0 (by omega)).trans kS.dT,(o7 1 (by omega)).trans kS.cV,(o7 2 (by omega)).trans kS.dD,(o7 3 (by omega)).trans kS.dZ,e1.trans kS.h1,?_,bE.trans kS.h3,g9⟩
  ·rw[<-kS.size];cases o2.dst<;>simp[cQ]
  ·obtain⟨h5,azM,g,cO⟩:=kS.h2;exact⟨h5,azM,e2.trans g,cO⟩
 rintro e iy (⟨rfl,aep,gs,azl,azk,azj⟩|⟨rfl,Of⟩)
 ·refine⟨_,rfl,behind true iy (same (aer _ _ aep) gs azl azk azj) (fun _=>aep) (fun h=>by cases h) _ (fun a w aa hx=>?_) (fun qm w2 aeD aBZ=>?_)⟩
  ·show LeavesInM (e8 none) 0 P fn a.tmps R a.defers .returning w;rw[aa];exact fin _ _ (.inr hx)
  ·have aa:(r.drop (i.toNat+1)).length<r.length:=by rw[List.length_drop];omega
   refine⟨⟨_,qm,rfl,aeD,aBZ,by omega⟩,?_⟩
   obtain⟨aee,aDl,g4,ays⟩:=aeD.h2;rw[g4];simp only;rw[ays];exact aa
 ·refine⟨_,rfl,?_⟩;have vb:(cQ kN o2.dst (.bool false)).getD t41 undef=.bool false:=by
   rw[T.d2];have:t41<kN.size:=by rw[kS.size];exact T.Li
   simp[cQ,Array.getD_eq_getD_getElem?,this]
  have yJ:az iy [] (fun _=>False) mJ ⟨[(t41,one (.bool false))],[],k⟩ (cQ kN o2.dst (.bool false)) iy:=by
   refine⟨?_,fun t=>?_,fun o ai h=>(by cases h),fun o ae b h=>(by obtain⟨_,h,_⟩:=h;cases h),fun o b h=>(by obtain⟨_,h,_⟩:=h;cases h),Fr.refl _ _,fun b h=>h.elim,⟨(aeq _ Of).ok,fun b hb h=>(by cases h),fun _ _ h=>h,(aeq _ Of).lt⟩⟩
   ·rw[T.d2];simp[cQ,kS.size]
   ·show cy _ _ _ _ (match look [(t41,one (.bool false))] t with|some v=>v|none=>.av (.aq .any)) _
    simp only[look];cases hb:t41.beq t with
    |false=>trivial
    |true=>
     have:=ce hb;subst this;rw[vb];exact .bool _
  refine oo yJ H T.ac5 fun aCD asf w1 D6 x_ lr _=>?_
  split at x_
  ·rename_i b hb;cases x_;have x1:=aex _ _ Of (lr.frame.mono fun b h=>by simp at h)
   refine wpIn_cond (t:=true) (Ga lr hb) (wpIn_ret ?_);exact fin _ _ (.inr x1)
  ·cases x_
end
def tQ:Code->Nat
 |.region i _ _=>i
 |_=>0
def nr:Code->Code
 |.rangeFunc _ _ a _=>a
 |_=>.skip
def kx:Code->Code
 |.rangeFunc _ _ _ b=>b
 |_=>.skip
def wQ:List (Nat×iw)->List Nat
 |[]=>[]
 |p::r=>p.1::wQ r
theorem ajs{P:Program}{C:Ctx}{c:Code}{q:Nat}{c4:List (Nat×iw)}(aa:fv (wQ c4) (keys (gA c q))=true):gL P (hI C c4) c q:=by
 refine TQ c q fun p fM hm f x4=>?_
 exfalso
 have hf:tU c4 p=some f:=x4;clear x4;have h1:p∈wQ c4:=by
  clear aa;induction c4 with
  |nil=>cases hf
  |cons x c4 ih=>
   obtain⟨k,g⟩:=x;simp only[tU] at hf;cases hb:k.beq p with
   |true=>rw[<-ce hb];exact cj
   |false=>simp only[hb,ak] at hf;exact ci _ (ih hf)
 have h2:p∈keys (gA c q):=by
  generalize gA c q=l at hm;induction l with
  |nil=>cases hm
  |cons x l ih=>
   rcases bR.1 hm with rfl|hm
   ·exact cj
   ·exact ci _ (ih hm)
 rw[sX h1 h2] at aa;cases aa
theorem akN{P:Program}{C:Ctx}(H:aT P C){cO:FuncId}(vh:wJ P cO){c:Code}{q p t fj:Nat}{be:Shape}{os:List aR}{c4:List (Nat×iw)}{aW:B->be.J->Option (Sum be.J (aH os))}{fin:be.J->Option (aH os)}
  (nb:ap c q p=.rangeFunc (.tmp t) #[fj] (nr (ap c q p)) (kx (ap c q p))) (aa:fv (wQ c4) (keys (gA (nr (ap c q p)) (2*p)))=true)
  (hu:gg (keys (gA (kx (ap c q p)) (2*p+1)))=true) (eV:l3 P (kx (ap c q p)) (2*p+1) c4)
  (hr:∀x y,aW x y=JV (hI C c4) (nr (ap c q p)) (kx (ap c q p)) p fj be os x y) (xd:∀y,fin y=hZ os (.norm (be.st y)))
  (LB:fv (keys be.c8) (fj::(cJ (nr (ap c q p))++cJ (kx (ap c q p))))=true) (Lv:hH (nr (ap c q p))=true) (Lu:hH (kx (ap c q p))=true)
  (Lr:Nat.blt fj be.nt=true) (rZ:ud be.nt os=true):aV P (ap c q p) (s3 cO t be os aW fin):=by
 rw[nb];exact ahy (C:=hI C c4) H vh (ajs aa) (lJ hu eV) hr xd LB Lv Lu (by simpa using Lr) rZ
theorem y3{P:Program}(w:World)(va yr ty elem:TypeId)(k g D LJ auI:Nat)(a:Addr)(K5 atF:Nat)(cur:Array Value)(t:TypeId)(cs:List Value)
  (hu:P.underlying va=some (.slice elem)) (hs:(P.info? elem).map (·.size)=some k)
  (hg:w.heap[g]? =some (.cells cur t (0,0))) (hn:cs.length=Nat.min K5 LJ*k)
  (fG:∀j v,cs[j]? =some v->w.cell? (a.add j)=some v) (l9:D+cs.length<=cur.size) (h1:∀v∈cs,v.oneCell'=true):
  (Builtin.copy_ #[va,yr] ty #[.slice (some ⟨g,D,none⟩) LJ auI,.slice (some a) K5 atF]).run P w=
   .ok (goInt (Nat.min K5 LJ)) (w.setRow g (bZ cur.toList D cs).toArray):=by
 have hl:=run_loadCells_list (P:=P) w a cs fG;have ej:=run_storeCells_at P g D t cs 0 cur w hg (by simpa using l9) h1
 cases aC:P.info? elem with
 |none=>simp[aC] at hs
 |some i=>
  have hi:i.size=k:=by simpa[aC] using hs
  simp[Builtin.copy_,run_underlying hu,Builtin.lenOf,Builtin.firstCells,sizeOf,typeInfo,aC,hi,<-hn,hl,ej,bZ]
theorem Qi{P:Program}(w:World){D:Oper}{a:Act}{K:Act->World->Prop}{Q:Exit->Act->World->Prop}(d s:Operand)(t bw:TypeId)
  (aP:D.op=.call {callee:=.builtin .copy,args:=#[d,s],argTypes:=#[t,bw]}) (v u:Value) (aa:a.eval d=v) (hs:a.eval s=u) {v':Value} {w':World}
  (hr:(Builtin.copy_ #[t,bw] D.type #[v,u]).run P w=.ok v' w') (h:K (a.put D.dst v') w'):D.wp P a w K Q:=by
 unfold Oper.wp execOp;simp only[aP,resolve,invoke,builtin,Sem.run_bind,Sem.run_pure,Result.andThen_ok,List.map_toArray,List.map_cons,List.map_nil,aa,hs,hr];exact h
theorem OY{P:Program}(w:World){ops:Array Oper}{rest:List Oper}{D:Oper}{a:Act}{Q:Exit->Act->World->Prop}(Nf:D.guard=none)(d s:Operand)(t bw:TypeId)
  (aP:D.op=.call {callee:=.builtin .copy,args:=#[d,s],argTypes:=#[t,bw]}) (v u:Value) (aa:a.eval d=v) (hs:a.eval s=u) {v':Value} {w':World}
  (hr:(Builtin.copy_ #[t,bw] D.type #[v,u]).run P w=.ok v' w') (h:wpList P ops Q rest (a.put D.dst v') w'):wpList P ops Q (D::rest) a w:=
 wpList_plain Nf fun _ b6=>Qi w d s t bw aP v u aa hs hr (b6 _ _ h)
theorem Pn{P:Program}{ops:Array Oper}{D:Oper}{a:Act}{w:World}{K:Act->World->Prop}{Q:Exit->Act->World->Prop}{E:Prop}
  (hg:D.guard=none) (d x:Operand) (va yr:TypeId) (M2:D.op=Op.call {callee:=Callee.builtin Builtin.copy,args:=#[d,x],argTypes:=#[va,yr]})
  (v u:Value) (aa:a.eval d=v) (hx:a.eval x=u) {v':Value} {w':World} (hr:(Builtin.copy_ #[va,yr] D.type #[v,u]).run P w=.ok v' w') (b6:K (a.put D.dst v') w'):
  if Region.wanted D (yielded ops a.tmps)=true then Oper.wp P D a w K Q else E:=by
 have hw:Region.wanted D (yielded ops a.tmps)=true:=by simp[Region.wanted,hg]
 rw[if_pos hw];exact Qi w d x va yr M2 v u aa hx hr b6
theorem Fb{P:Program}(w:World){ops:Array Oper}{rest:List Oper}{D:Oper}{a:Act}{Q:Exit->Act->World->Prop}(Nf:D.guard=none)(d s:Operand)(t bw:TypeId)
  (aP:D.op=.call {callee:=.builtin .append,args:=#[d,s],argTypes:=#[t,bw]}) (v u:Value) (aa:a.eval d=v) (hs:a.eval s=u) {v':Value} {w':World}
  (hr:(Builtin.append_ #[t,bw] D.type #[v,u]).run P w=.ok v' w') (h:wpList P ops Q rest (a.put D.dst v') w'):wpList P ops Q (D::rest) a w:=
 wpList_plain Nf fun _ b6=>by
  unfold Oper.wp execOp;simp only[aP,resolve,invoke,builtin,Sem.run_bind,Sem.run_pure,Result.andThen_ok,List.map_toArray,List.map_cons,List.map_nil,aa,hs,hr];exact b6 _ _ h
def Bm(t:bi):List Arg->Option (List (den t)×Int×List (den t))
 |[.av (.aq (.fresh t1 xs)),.av (.aq (.d (.int .i64 i))),.av (.aq (.fresh t2 vs))]=>if h1:t1=t then(if h2:t2=t then some (h1▸xs,i,h2▸vs) else none) else none
 |_=>none
def uk{aE:Type}(bt:Nat)(xs:List aE)(i:Int)(vs:List aE):Option (List aE):=
 if 0<=i/\i<=xs.length/\(xs.length+vs.length)*bt<=room/\xs.length+vs.length<=maxLen then some (xs.take i.toNat++vs++xs.drop i.toNat) else none
def Jd(t:bi)(bt:Nat):aI:=fun as=>match Bm t as with
 |some (xs,i,vs)=>⟨List (den t),uk bt xs i vs,fun _=>[],fun r=>[.aq (.fresh t r)]⟩
 |none=>.fail
theorem agP{t:bi}{as:List Arg}{xs:List (den t)}{i:Int}{vs:List (den t)}(h:Bm t as=some (xs,i,vs)):as=[.av (.aq (.fresh t xs)),.av (.aq (.d (.int .i64 i))),.av (.aq (.fresh t vs))]:=by
 unfold Bm at h;split at h
 ·split at h
  ·rename_i h1;split at h
   ·rename_i h2;subst h1;subst h2;cases h;rfl
   ·cases h
  ·cases h
 ·cases h
structure amm(P:Program)(f:FuncId)(T e:TypeId)(bt:Nat):Prop where
 arv:∀(xa:Option Addr) (vc:Nat) (w:World),Calls P f #[.slice none 0 0,.int .i64 0,.slice xa 0 vc] w fun e w'=>e=.returned (.slice none 0 0)/\w'=w
 aru:∀(g n c i:Nat) (xa:Option Addr) (vc:Nat) (w:World) (hi:i<=n) (hnc:n<=c) (hc63:c<=9223372036854775807),
  Calls P f #[.slice (some ⟨g,0,none⟩) n c,.int .i64 i,.slice xa 0 vc] w fun e w'=>e=.returned (.slice (some ⟨g,0,none⟩) n c)/\w'=w
 auF:∀(xa:Option Addr) (m vc:Nat) (w:World) (hm:0<m) (v':Value) (W:World) (hr:∀ty,(Builtin.append_ #[T,T] ty #[.slice none 0 0,.slice xa m vc]).run P w=.ok v' W),
  Calls P f #[.slice none 0 0,.int .i64 0,.slice xa m vc] w fun e w'=>e=.returned v'/\w'=W
 auE:∀(g n c:Nat) (xa:Option Addr) (m vc:Nat) (w:World) (hnc:n<=c) (hc63:c<=9223372036854775807) (hm:0<m) (v':Value) (W:World) (hr:∀ty,(Builtin.append_ #[T,T] ty #[.slice (some ⟨g,0,none⟩) n c,.slice xa m vc]).run P w=.ok v' W),
  Calls P f #[.slice (some ⟨g,0,none⟩) n c,.int .i64 n,.slice xa m vc] w fun e w'=>e=.returned v'/\w'=W
 shift:∀(g n c i vb m vc:Nat) (cur vcur:Array Value) (te ve:TypeId) (w:World) (hi:i<n) (hm:0<m) (hroom:n+m<=c) (hc63:c<=9223372036854775807) (hne:vb≠g)
  (hg:w.heap[g]? =some (.cells cur te (0,0))) (hv:w.heap[vb]? =some (.cells vcur ve (0,0))) (hcs:cur.size=c*4) (hvs:m*4<=vcur.size)
  (h1c:∀v∈cur.toList.take (n*4),v.oneCell'=true) (h1v:∀v∈vcur.toList.take (m*4),v.oneCell'=true),
  Calls P f #[.slice (some ⟨g,0,none⟩) n c,.int .i64 i,.slice (some ⟨vb,0,none⟩) m vc] w fun e w'=>
   e=.returned (.slice (some ⟨g,0,none⟩) (n+m) c)/\w'=w.drew.setRow g (bZ (bZ cur.toList ((i+m)*4) ((cur.toList.take (n*4)).drop (i*4))) (i*4) (vcur.toList.take (m*4))).toArray
 grow:∀(g n c i vb m vc:Nat) (cur vcur:Array Value) (te ve:TypeId) (w:World) (hi:i<n) (hm:0<m) (hnc:n<=c) (hroom:c<n+m) (hc63:c<=9223372036854775807) (hbig:(n+m)*bt<=140737488355328)
  (hg:w.heap[g]? =some (.cells cur te (0,0))) (hv:w.heap[vb]? =some (.cells vcur ve (0,0))) (hcs:cur.size=c*4) (hvs:m*4<=vcur.size)
  (h1c:∀v∈cur.toList.take (n*4),v.oneCell'=true) (h1v:∀v∈vcur.toList.take (m*4),v.oneCell'=true),
  ∃G ROW,∃W:World,G<=maxLen/\n+m<=G/\ROW.size=G*4/\ROW.toList.take (i*4)=cur.toList.take (i*4)/\W.os=w.os/\W.tape=w.tape/\W.output=w.output/\W.heap=w.heap.push (.cells ROW e (0,0))/\
  Calls P f #[.slice (some ⟨g,0,none⟩) n c,.int .i64 i,.slice (some ⟨vb,0,none⟩) m vc] w fun e w'=>
   e=.returned (.slice (some ⟨w.heap.size,0,none⟩) (n+m) G)/\w'.os=w.os/\w'.tape=w.tape/\w'.output=w.output/\
    w'.heap=(W.setRow w.heap.size (bZ (bZ ROW.toList (i*4) (vcur.toList.take (m*4))) ((i+m)*4) ((cur.toList.take (n*4)).drop (i*4))).toArray).heap
theorem dl.take{w:World}{av:Nat->Prop}{ds:List bk}{vs:List Value}(h:dl w av ds vs)(n:Nat):dl w av (ds.take n) (vs.take n):=by
 refine⟨by rw[List.length_take,List.length_take,h.1],fun j g1 g2=>?_⟩
 simp only[List.getElem_take];simp only[List.length_take] at g1 g2;exact h.2 j (by omega) (by omega)
theorem dl.drop{w:World}{av:Nat->Prop}{ds:List bk}{vs:List Value}(h:dl w av ds vs)(n:Nat):dl w av (ds.drop n) (vs.drop n):=by
 refine⟨by rw[List.length_drop,List.length_drop,h.1],fun j g1 g2=>?_⟩
 simp only[List.getElem_drop];simp only[List.length_drop] at g1 g2;exact h.2 (n+j) (by omega) (by omega)
theorem dl.dh{w:World}{av:Nat->Prop}{ds ln:List bk}{vs cH:List Value}(h:dl w av ds vs)(an:dl w av ln cH):dl w av (ds++ln) (vs++cH):=by
 refine⟨by rw[dx,dx,h.1,an.1],fun j g1 g2=>?_⟩
 rw[List.getElem_append,List.getElem_append];have:=h.1;simp only[dx] at g1 g2;by_cases hj:j<ds.length
 ·rw[dif_pos hj,dif_pos (by omega)]
  exact h.2 j hj (by omega)
 ·rw[dif_neg hj,dif_neg (by omega)]
  have:=an.2 (j-ds.length) (by omega) (by omega)
  simpa[h.1] using this
theorem dl.one{w:World}{av:Nat->Prop}{ds:List bk}{vs:List Value}(h:dl w av ds vs):∀v∈vs,v.oneCell'=true:=by
 intro v hv;obtain⟨j,hj,rfl⟩:=List.mem_iff_getElem.1 hv;exact(h.2 j (by rw[<-h.1];exact hj) hj).j4
theorem pD{t:bi}(h:bh t=4):t.ki=false:=by cases t<;>first|rfl|cases h
theorem Up{t:bi}(h:bh t=4){e:TypeId}{cur:Array Value}:nQ t.ki e cur (0,0):=⟨(fun an=>by rw[pD h] at an;cases an),.inl rfl⟩
theorem s4{w:World}{e:TypeId}{s:Nat}{v:Value}{n:Nat}{cs:List Value}{u:Bool}(hu:u=false)(h:rowAt w u e s v n cs):(v=.slice none 0 0/\n=0/\cs=[])\/
  ∃g c cur,v=.slice (some ⟨g,0,none⟩) n c/\w.heap[g]? =some (.cells cur e (0,0))/\n<=c/\c<=maxLen/\cur.size=c*s/\cur.toList.take (n*s)=cs:=by
 obtain⟨h1,h2⟩:=h;rcases h2 with⟨h2,h3⟩|⟨g,c,cur,fz,h2,h3,aD,bn,cl,iB,h8⟩
 ·subst h3;exact .inl ⟨h2,rfl,fO (by simpa using h1)⟩
 ·rcases h3.2 with rfl|⟨h3,_⟩
  ·exact .inr ⟨g,c,cur,h2,aD,bn,cl,iB,h8⟩
  ·rw[hu] at h3;cases h3
theorem Bl{t:bi}(aD:bh t=4){w w':World}{X:Nat->Prop}{dP:List Nat}{xs vs:List (den t)}{i:Nat}(hi:i<=xs.length){cs kM:List Value}{v':Value}(hcs:dl w (fun b=>X b\/b∈dP) (flat t xs) cs)(hvs:dl w (fun b=>X b\/b∈dP) (flat t vs) kM)
  (hrow:∃e,rowAt w' t.ki e 4 v' (xs.length+vs.length) (cs.take (i*4)++kM++cs.drop (i*4))) (aW:Fr dP w w') (hold:∀b,X b->b<w.heap.size) (hv:∀b,b0 v'=some b->b<w'.heap.size/\(b∈dP\/w.heap.size<=b)) (gV:∀b,b∈dP->¬X b)
  (args:List Arg) (eL:List Value) (fk:eu args eL=[]):
  ∃eO eN rv,Fr dP w w'/\jH w' (fun b=>X b\/b∈eO++eN) (eu args eL) [] eO/\lT w' (fun b=>X b\/b∈eO++eN) [.aq (.fresh t (xs.take i++vs++xs.drop i))] rv eN/\
   v'=oH rv/\(eO++eN).Nodup/\∀b,b∈eO++eN->¬X b/\(b∈dP\/w.heap.size<=b):=by
 have eG:∀b,b∈(b0 v').toList->b0 v'=some b:=fun b hb=>by
  cases aC:b0 v' with
  |none=>rw[aC] at hb;simp at hb
  |some c=>rw[aC] at hb;simp at hb;rw[hb]
 have ayA:∀b,b∈dP\/w.heap.size<=b->¬X b:=fun b hb hx=>by
  rcases hb with hb|hb
  ·exact gV b hb hx
  ·have:=hold b hx;omega
 have G:iK mJ mJ [] [] w w' (fun b=>X b\/b∈dP) (fun b=>X b\/b∈[]++((b0 v').toList++[])):=by
  refine⟨fun _ _ h=>(by cases h),fun b hb hlt=>aW.block b hlt (fun h=>hb (.inr h)),fun b hb hlt h=>?_⟩
  rcases h with h|h
  ·exact hb (.inl h)
  ·simp only[List.nil_append,List.append_nil] at h;rcases(hv b (eG b h)).2 with h|h
   ·exact hb (.inr h)
   ·omega
 have qe:∀b,(X b\/b∈[]++((b0 v').toList++[]))->b<w'.heap.size:=fun b h=>by
  rcases h with h|h
  ·exact Nat.lt_of_lt_of_le (hold b h) aW.size
  ·simp only[List.nil_append,List.append_nil] at h;exact(hv b (eG b h)).1
 obtain⟨e,hrow⟩:=hrow;have hlen:(xs.take i++vs++xs.drop i).length=xs.length+vs.length:=by simp only[dx,List.length_take,List.length_drop];omega
 have qw:flat t (xs.take i++vs++xs.drop i)=(flat t xs).take (i*4)++flat t vs++(flat t xs).drop (i*4):=by
  rw[sM,sM,np,Rq,aD]
 have ek:dl w (fun b=>X b\/b∈dP) (flat t (xs.take i++vs++xs.drop i)) (cs.take (i*4)++kM++cs.drop (i*4)):=by
  rw[qw];exact((hcs.take _).dh hvs).dh (hcs.drop _)
 refine⟨[],(b0 v').toList++[],[v'],aW,by rw[fk];rfl,⟨_,[],rfl,⟨rfl,e,_,by rw[hlen,aD];exact hrow,ek.1,fun j g1 g2=>(ek.2 j g1 g2).goes G aW.size qe⟩,rfl⟩,rfl,?_,fun b hb=>?_⟩
 ·cases b0 v'<;>simp
 ·simp only[List.nil_append,List.append_nil] at hb;have:=(hv b (eG b hb)).2;exact⟨ayA b this,this⟩
theorem aiK(cur cs vs:List Value)(n m i:Nat)(hcs:cur.take (n*4)=cs)(hi:i<=n)(mW:vs.length=m*4)(hn:n*4+m*4<=cur.length):
  (bZ (bZ cur ((i+m)*4) (cs.drop (i*4))) (i*4) vs).take ((n+m)*4)=cs.take (i*4)++vs++cs.drop (i*4):=by
 subst hcs;apply List.ext_getElem?;intro j;simp only[bZ,List.getElem?_take,List.getElem?_append,List.getElem?_drop,dx,List.length_take,List.length_drop,mW];repeat' split
 all_goals first|rfl|omega|(congr 1;omega)|skip
theorem ahr(ROW cs vs:List Value)(n m i:Nat)(hROW:ROW.take (i*4)=cs.take (i*4))(hi:i<=n)(hcl:cs.length=n*4)(mW:vs.length=m*4)(hn:n*4+m*4<=ROW.length):
  (bZ (bZ ROW (i*4) vs) ((i+m)*4) (cs.drop (i*4))).take ((n+m)*4)=cs.take (i*4)++vs++cs.drop (i*4):=by
 rw[<-hROW];apply List.ext_getElem?;intro j;simp only[bZ,List.getElem?_take,List.getElem?_append,List.getElem?_drop,dx,List.length_take,List.length_drop,mW,hcl];repeat' split
 all_goals first|rfl|omega|(congr 1;omega)|(symm;apply List.getElem?_eq_none;omega)
section
variable {aE S J bx:Type}
theorem ea{f:J->Option (Sum J bx)}{y y':J}(h:f y=some (.inl y')):bA f y=bA f y':=by rw[Ab,h]
theorem cC{f:J->Option (Sum J bx)}{y:J}{b:bx}(h:f y=some (.inr b)):bA f y=some b:=by rw[Ab,h]
def fh(body:Nat->aE->S->Option (Sum S bx))(fin:S->bx):Nat->List aE->S->Option bx
 |_,[],s=>some (fin s)
 |i,x::r,s=>match body i x s with
  |none=>none
  |some (.inl aQ)=>fh body fin (i+1) r aQ
  |some (.inr b)=>some b
theorem ajB(g:J->Option (Sum J bx))(xs:List aE)(st:Nat->S->J)(body:Nat->aE->S->Option (Sum S bx))(fin:S->bx)
  (h1:∀i x s,xs[i]? =some x->g (st i s)=(body i x s).map fun q=>match q with|.inl aQ=>.inl (st (i+1) aQ)|.inr b=>.inr b)
  (h2:∀s,g (st xs.length s)=some (.inr (fin s))):∀(r:List aE) (k:Nat),(∀i,r[i]? =xs[k+i]?)->k<=xs.length->∀s,bA g (st k s)=fh body fin k r s:=by
 intro r;induction r with
 |nil=>
  intro k hr hk s;have:k=xs.length:=by
   have:=hr 0;simp only[List.getElem?_nil,Nat.add_zero] at this;have:=(List.getElem?_eq_none_iff.1 this.symm);omega
  subst this;exact cC (h2 s)
 |cons x r ih=>
  intro k hr hk s;have hx:xs[k]? =some x:=by
   have:=hr 0;simpa using this.symm
  have hlt:k<xs.length:=(List.getElem?_eq_some_iff.1 hx).1;simp only[fh];have:=h1 k x s hx;cases hb:body k x s with
  |none=>
   rw[hb] at this;rw[Ab,this];rfl
  |some q=>
   rw[hb] at this;cases q with
   |inl aQ=>
    rw[ea (y':=st (k+1) aQ) this];exact ih (k+1) (fun i=>by have:=hr (i+1);rw[List.getElem?_cons_succ] at this;rw[this];congr 1;omega) hlt aQ
   |inr b=>exact cC this
theorem Gk(g:J->Option (Sum J bx))(xs:List aE)(st:Nat->S->J)(body:Nat->aE->S->Option (Sum S bx))(fin:S->bx)
  (h1:∀i x s,xs[i]? =some x->g (st i s)=(body i x s).map fun q=>match q with|.inl aQ=>.inl (st (i+1) aQ)|.inr b=>.inr b)
  (h2:∀s,g (st xs.length s)=some (.inr (fin s))) (s:S):bA g (st 0 s)=fh body fin 0 xs s:=
 ajB g xs st body fin h1 h2 xs 0 (fun i=>by rw[Nat.zero_add]) (Nat.zero_le _) s
theorem mv(g:J->Option (Sum J bx))(xs:List aE)(st:Nat->S->J)(body:Nat->aE->S->Option (Sum S bx))(fin:S->bx)(I:Nat->S->Prop)(iR:S)(dH:I 0 iR)
  (h1:∀i x s,xs[i]? =some x->I i s->(g (st i s)=(body i x s).map fun q=>match q with|.inl aQ=>.inl (st (i+1) aQ)|.inr b=>.inr b)/\∀aQ,body i x s=some (.inl aQ)->I (i+1) aQ)
  (h2:∀s,I xs.length s->g (st xs.length s)=some (.inr (fin s))):bA g (st 0 iR)=fh body fin 0 xs iR:=by
 suffices h:∀(r:List aE) (k:Nat) (s:S),(∀i,r[i]? =xs[k+i]?)->k<=xs.length->I k s->bA g (st k s)=fh body fin k r s from
  h xs 0 iR (fun i=>by rw[Nat.zero_add]) (Nat.zero_le _) dH
 intro r;induction r with
 |nil=>
  intro k s hr hk dH;have:k=xs.length:=by
   have:=hr 0;simp only[List.getElem?_nil,Nat.add_zero] at this;have:=(List.getElem?_eq_none_iff.1 this.symm);omega
  subst this;exact cC (h2 s dH)
 |cons x r ih=>
  intro k s hr hk dH;have hx:xs[k]? =some x:=by
   have:=hr 0;simpa using this.symm
  have hlt:k<xs.length:=(List.getElem?_eq_some_iff.1 hx).1;simp only[fh];obtain⟨this,Ns⟩:=h1 k x s hx dH;cases hb:body k x s with
  |none=>
   rw[hb] at this;rw[Ab,this];rfl
  |some q=>
   rw[hb] at this;cases q with
   |inl aQ=>
    rw[ea (y':=st (k+1) aQ) this];exact ih (k+1) aQ (fun i=>by have:=hr (i+1);rw[List.getElem?_cons_succ] at this;rw[this];congr 1;omega) hlt (Ns aQ hb)
   |inr b=>exact cC this
def allI(ok:Nat->aE->Bool):Nat->List aE->Bool
 |_,[]=>true
 |i,x::r=>ok i x&&allI ok (i+1) r
theorem hF(ok:aE->Bool):∀(i:Nat) (xs:List aE),allI (fun _ x=>ok x) i xs=xs.all ok:=by
 intro i xs;induction xs generalizing i with
 |nil=>rfl
 |cons x r ih=>simp[allI,ih]
theorem Qh{ok mT:Nat->aE->Bool}:∀(xs:List aE) (j:Nat),(∀i x,j<=i->x∈xs->ok i x=mT i x)->allI ok j xs=allI mT j xs:=by
 intro xs;induction xs with
 |nil=>intro j _;rfl
 |cons x r ih=>
  intro j h;simp only[allI];rw[h j x (Nat.le_refl _) cj,ih (j+1) (fun i y hi hy=>h i y (by omega) (ci _ hy))]
theorem HP{ok mT:Nat->aE->Bool}:∀(xs:List aE) (j:Nat),allI (fun i x=>ok i x&&mT i x) j xs=(allI ok j xs&&allI mT j xs):=by
 intro xs;induction xs with
 |nil=>intro j;rfl
 |cons x r ih=>
  intro j;simp only[allI,ih];cases ok j x<;>cases mT j x<;>simp
theorem aoz(n:Nat):∀(xs:List aE) (j:Nat),allI (fun i _=>decide (i<n)) j xs=(xs.isEmpty||decide (j+xs.length<=n)):=by
 intro xs;induction xs with
 |nil=>intro j;rfl
 |cons x r ih=>
  intro j;simp only[allI,ih];cases r with
  |nil=>simp;omega
  |cons y r=>
   simp only[List.isEmpty_cons,Bool.false_or,cY];by_cases h:j<n
   ·simp only[h,decide_true,Bool.true_and];congr 1;apply propext;omega
   ·simp only[h,decide_false,Bool.false_and];symm;simp;omega
theorem yV(ok:Nat->aE->Bool)(step:aE->S->S)(no:bx)(fin:S->bx):∀(r:List aE) (k:Nat) (s:S),
  fh (fun i x s=>some (bif ok i x then .inl (step x s) else .inr no)) fin k r s=some (bif allI ok k r then fin (r.foldl (fun s x=>step x s) s) else no):=by
 intro r;induction r with
 |nil=>intro k s;rfl
 |cons x r ih=>
  intro k s;simp only[fh,allI];cases ok k x with
  |false=>rfl
  |true=>simp only[ad,Bool.true_and];exact ih _ _
theorem gw(g:J->Option (Sum J bx))(xs:List aE)(st:Nat->J)(ok:Nat->aE->Bool)(no xz:bx)
  (h1:∀i x,xs[i]? =some x->g (st i)=some (bif ok i x then .inl (st (i+1)) else .inr no)) (h2:g (st xs.length)=some (.inr xz)):
  bA g (st 0)=some (bif allI ok 0 xs then xz else no):=by
 rw[Gk (S:=Unit) g xs (fun i _=>st i) (fun i x _=>some (bif ok i x then .inl () else .inr no)) (fun _=>xz)
  (fun i x _ hx=>by rw[h1 i x hx];cases ok i x<;>rfl) (fun _=>h2) ()]
 suffices h:∀(r:List aE) (k:Nat),fh (fun i x (_:Unit)=>some (bif ok i x then .inl () else .inr no)) (fun _=>xz) k r ()=some (bif allI ok k r then xz else no) from h xs 0
 intro r;induction r with
 |nil=>intro k;rfl
 |cons x r ih=>
  intro k;simp only[fh,allI];cases ok k x with
  |false=>rfl
  |true=>simp only[ad,Bool.true_and];exact ih _
theorem Re(g:J->Option (Sum J bx))(xs:List aE)(st:Nat->S->J)(step:aE->S->S)(fin:S->bx)(I:Nat->S->Prop)(s:S)(dH:I 0 s)
  (h1:∀i x s,xs[i]? =some x->I i s->g (st i s)=some (.inl (st (i+1) (step x s)))/\I (i+1) (step x s)) (h2:∀s,I xs.length s->g (st xs.length s)=some (.inr (fin s))):
  bA g (st 0 s)=some (fin (xs.foldl (fun s x=>step x s) s)):=by
 suffices h:∀(r:List aE) (k:Nat) (s:S),(∀i,r[i]? =xs[k+i]?)->k<=xs.length->I k s->bA g (st k s)=some (fin (r.foldl (fun s x=>step x s) s)) from
  h xs 0 s (fun i=>by rw[Nat.zero_add]) (Nat.zero_le _) dH
 intro r;induction r with
 |nil=>
  intro k s hr hk dH;have:k=xs.length:=by
   have:=hr 0;simp only[List.getElem?_nil,Nat.add_zero] at this;have:=(List.getElem?_eq_none_iff.1 this.symm);omega
  subst this;exact cC (h2 s dH)
 |cons x r ih=>
  intro k s hr hk dH;have hx:xs[k]? =some x:=by
   have:=hr 0;simpa using this.symm
  have hlt:k<xs.length:=(List.getElem?_eq_some_iff.1 hx).1;obtain⟨e,Ns⟩:=h1 k x s hx dH;rw[ea e];exact ih (k+1) _ (fun i=>by have:=hr (i+1);rw[List.getElem?_cons_succ] at this;rw[this];congr 1;omega) hlt Ns
end
abbrev aA(n:Nat):Prop:=n<=1099511627776
theorem cd{aE:Type}(xs:List aE)(i:Nat):aS xs (i:Int)=xs[i]? :=by
 unfold aS;rw[if_pos (Int.natCast_nonneg i),Int.toNat_natCast]
theorem fP{n i:Nat}(h:i<n):bf n (i:Int)=some i:=by
 unfold bf;rw[if_pos ⟨Int.natCast_nonneg i,by omega⟩,Int.toNat_natCast]
theorem c5{n:Int}(h:-9223372036854775808<=n)(an:n<=9223372036854775807):IntKind.i64.wrap n=n:=by
 rw[IntKind.wrap_i64];omega
theorem b9{i:Nat}(h:aA i):IntKind.i64.wrap ((i:Int)+1)=((i+1:Nat):Int):=by
 rw[c5 (by unfold aA at h;omega) (by unfold aA at h;omega)];omega
theorem vw{i:Nat}(h:aA i):IntKind.i64.wrap (((i+1:Nat):Int)-1)=(i:Int):=by
 rw[c5 (by unfold aA at h;omega) (by unfold aA at h;omega)];omega
theorem qV{aE:Type}{xs:List aE}{a b:Nat}(h:a<=b)(h2:b<=xs.length):bq xs (a:Int) (b:Int)=some ((xs.take b).drop a):=by
 unfold bq;rw[if_pos ⟨Int.natCast_nonneg a,by omega,by omega⟩,Int.toNat_natCast,Int.toNat_natCast]
theorem gx{aE:Type}{xs:List aE}{b:Nat}(h2:b<=xs.length):bq xs 0 (b:Int)=some (xs.take b):=by
 have:=qV (a:=0) (Nat.zero_le b) h2;simpa using this
theorem fC{aE:Type}{xs:List aE}{a:Nat}(h2:a<=xs.length):bq xs (a:Int) (xs.length:Int)=some (xs.drop a):=by
 rw[qV h2 (Nat.le_refl _),List.take_length]
theorem dw{aE:Type}{bytes:Nat}{xs bm:List aE}(hb:bytes<=100)(h:aA (xs.length+bm.length)):cm bytes xs bm=some (xs++bm):=by
 unfold cm;have h1:(xs.length+bm.length)*bytes<=room:=by unfold room;exact Nat.le_trans (Nat.mul_le_mul h hb) (by decide)
 have h2:xs.length+bm.length<=maxLen:=by unfold maxLen;unfold aA at h;omega
 rw[if_pos ⟨h1,h2⟩]
theorem VH{aE:Type}{bytes n:Nat}{z:aE}(hb:bytes<=100)(h:aA n):kh bytes (n:Int) (n:Int) z=some (List.replicate n z):=by
 unfold kh;have:((n:Int)*(bytes:Int))<=(room:Int):=by
  have:n*bytes<=room:=by unfold room;exact Nat.le_trans (Nat.mul_le_mul h hb) (by decide)
  rw[<-Int.natCast_mul];omega
 rw[if_pos ⟨by omega,by omega,this,by unfold maxLen;unfold aA at h;omega⟩,Int.toNat_natCast]
theorem a':IntKind.i64.wrap 1=1:=by decide
theorem _f(i:Nat):((i:Int)==0)=(i==0):=by
 cases h:(i==0)
 ·simp only[beq_eq_false_iff_ne,ne_eq] at h ⊢;omega
 ·simp only[beq_iff_eq] at h ⊢;omega
theorem pa(a b:Int):decide (a<b)=!decide (b<=a):=by
 by_cases h:b<=a<;>simp[h]<;>omega
theorem n8(a b:Int):decide (a>b)=!decide (a<=b):=pa b a
theorem Nz(a b:Int):decide (a>=b)=decide (b<=a):=rfl
theorem ct{i n:Nat}(h:i<n):decide ((i:Int)<(n:Int))=true:=by simpa using h
theorem dK{n:Nat}:decide ((n:Int)<(n:Int))=false:=by simp
theorem da{aE:Type}{xs:List aE}{i:Nat}{x:aE}(h:xs[i]? =some x):i<xs.length:=(List.getElem?_eq_some_iff.1 h).1
def nR(P:Program):Nat->List (TypeId×Nat×Bool)->List aU->Prop
 |_,[],[]=>True
 |k,(t,D,b)::b4,.d (.int i _)::z=>D=k/\b=false/\(cu.int i).ok P t/\nR P (k+1) b4 z
 |k,(t,D,b)::b4,.d (.bool _)::z=>D=k/\b=false/\(cu.bool).ok P t/\nR P (k+1) b4 z
 |k,(t,D,b)::b4,.d (.str _)::z=>D=k/\b=false/\(cu.str).ok P t/\nR P (k+1) b4 z
 |_,_,_=>False
section
variable {P:Program}{w:World}
theorem TN{t:TypeId}{ti:cu}(h:ti.ok P t)(hn:ti≠.none)(ha:ti.agg=false){vs:List Value}{k:Nat}{v:Value}(hv:vs[k]? =some v):(part t vs.toArray k).run P w=.ok v w:=by
 unfold part;simp only[Sem.run_bind,cu.Q7 h hn,ha,Result.andThen_ok,Bool.false_eq_true,if_false];simp[hv]
theorem af7{d:Nat}:∀{b4:List Field} {k:Nat} {z:List aU} {vs us:List Value} {b:Bool},nR P k (b4.map fun f=>(f.type,f.offset,f.name== "_")) z->b4≠[]->j3 (vs.drop k) (us.drop k)=some b->qh z (vs.drop k)=true->
  (Op.eqFields (d+1) vs.toArray us.toArray b4).run P w=.ok b w:=by
 intro b4;induction b4 with
 |nil=>intro k z vs us b _ h;exact absurd rfl h
 |cons f b4 ih=>
  intro k z vs us b he _ hc hf;cases uH:vs.drop k with
  |nil=>rw[uH] at hc;cases us.drop k<;>cases hc
  |cons v pj=>
   cases Em:us.drop k with
   |nil=>rw[uH,Em] at hc;cases pj<;>cases hc
   |cons u sv=>
    have hv:vs[k]? =some v:=by rw[<-List.head?_drop,uH];rfl
    have hu:us[k]? =some u:=by rw[<-List.head?_drop,Em];rfl
    have acD:vs.drop (k+1)=pj:=by rw[<-List.tail_drop,uH];rfl
    have ayk:us.drop (k+1)=sv:=by rw[<-List.tail_drop,Em];rfl
    rw[uH] at hf;rw[uH,Em] at hc;have key:∃r sr,oA v u=some r/\f.offset=k/\(f.name== "_")=false/\(part f.type vs.toArray k).run P w=.ok v w/\(part f.type us.toArray k).run P w=.ok u w/\
      (Op.equalIn (d+1) f.type v u).run P w=.ok r w/\nR P (k+1) (b4.map fun f=>(f.type,f.offset,f.name== "_")) sr/\qh sr pj=true:=by
     have hle:∃r,oA v u=some r:=by
      cases hl:oA v u with
      |some r=>exact⟨r,rfl⟩
      |none=>cases pj<;>cases sv<;>simp[j3,hl] at hc
     obtain⟨r,hr⟩:=hle;have mg:=hr;refine⟨r,z.tail,mg,?_⟩;cases z with
     |nil=>cases v<;>cases hf
     |cons aBg sr=>
      cases aBg<;>try(cases hf;done)
      rename_i aBL;cases aBL<;>try(cases hf;done)
      all_goals(simp only[List.map_cons,nR] at he;obtain⟨h1,h2,h3,aD⟩:=he)
      all_goals(cases v<;>try(cases hf;done))
      all_goals(cases u<;>try(cases hr;done))
      all_goals(refine⟨h1,h2,TN h3 (by intro h;cases h) rfl hv,TN h3 (by intro h;cases h) rfl hu,?_,aD,hf⟩)
      ·simp only[oA] at hr;split at hr
       ·rename_i e;subst e;cases hr;exact run_equalIn_int w d _ _ _ _ _ h3.1
       ·cases hr
      ·simp only[oA,bH] at hr;subst hr;exact run_equalIn_bool' w d _ _ _ h3.1
      ·simp only[oA,bH] at hr;subst hr;rw[run_equalIn_string w d _ _ _ h3.1,beq_toListBytes]
    obtain⟨r,sr,g1,g2,g3,g4,g5,g6,g7,g8⟩:=key;have jc:f.name≠ "_" :=by simpa using g3
    rw[Op.eqFields];simp only[if_pos jc,g2,Sem.run_bind,g4,g5,g6,Result.andThen_ok];cases b4 with
    |nil=>
     have Da:pj=[]:=by
      cases sr with
      |nil=>cases pj with
       |nil=>rfl
       |cons x _=>cases x<;>cases g8
      |cons x _=>cases x<;>(try rename_i Ol;cases Ol)<;>simp only[List.map_nil,nR] at g7
     subst Da;have:sv=[]:=by
      cases sv with
      |nil=>rfl
      |cons x aDo=>simp[j3] at hc
     subst this;simp only[j3] at hc;rw[g1] at hc;cases hc;cases b<;>simp[Op.eqFields]
    |cons f2 aDi=>
     have hne:pj≠[]:=by
      rintro rfl;cases sr with
      |nil=>simp only[List.map_cons,nR] at g7
      |cons x _=>cases x<;>(try rename_i Ol;cases Ol)<;>cases g8
     have:∃s,j3 pj sv=some s/\b=(r&&s):=by
      cases pj with
      |nil=>exact absurd rfl hne
      |cons v2 axz=>
       simp only[j3,g1] at hc;cases hs:j3 (v2::axz) sv with
       |none=>rw[hs] at hc;cases sv<;>simp at hc
       |some s=>rw[hs] at hc;simp only[bH] at hc;exact⟨s,rfl,hc.symm⟩
     obtain⟨s,hs,rfl⟩:=this;have:=ih (k:=k+1) (z:=sr) (vs:=vs) (us:=us) (b:=s) g7 (by simp) (by rw[acD,ayk];exact hs) (by rw[acD];exact g8)
     cases r
     ·simp
     ·simpa using this
theorem ajU{T:TypeId}{fields:Array Field}{l:List (TypeId×Nat×Bool)}{z:List aU}(hu:P.underlying T=some (.struct fields))(hp:P.stoodInHeld T=false)(hg:P.eqGuardType P.depth T=false)
  (hm:(fields.toList.map fun f=>(f.type,f.offset,f.name== "_"))=l) (hne:fields.toList≠[]) (he:nR P 0 l z):
  P.eqGuardType P.depth T=false/\∀(vs us:List Value) (b:Bool) (w:World),j3 vs us=some b->qh z vs=true->(Op.equal T (.agg vs.toArray) (.agg us.toArray)).run P w=.ok b w:=by
 refine⟨hg,fun vs us b w hc hf=>?_⟩
 have Ey:P.fieldsOf T=fields:=by simp[Program.fieldsOf,hu]
 show(Op.equalIn (9999+1) T (.agg vs.toArray) (.agg us.toArray)).run P w=_;rw[run_equalIn_struct (P:=P) w 9999 T _ _ (by rw[Ey];exact hu) hp,Ey]
 exact af7 (d:=9998) (k:=0) (by rw[hm];exact he) hne hc hf
end
def Jz:aI:=fun as=>match tf as with
 |some (s,c)=>⟨Unit,some (),fun _=>[],fun _=>[.aq (.d (.int .i64 ((Lib.countByte s c.toNat.toUInt8:Nat):Int)))]⟩
 |none=>.fail
theorem af8{P:Program}{g:FuncId}{fn:Func}(hf:P.funcs[g]? =some fn)(rs:(fn.name== "runtime.NumGoroutine")=false)(hb:fn.body.isNone=true)(hn:Extern.findNext fn=none)
  (he:Extern.find fn=some Extern.BytealgCount.count):aF P g Jz:=by
 intro as;unfold Jz;cases aC:tf as with
 |none=>intro y hy;cases hy
 |some q=>
  obtain⟨s,c⟩:=q;have has:=Pz aC;subst has;intro y hy w X vs dP bV _ _ _ _;match vs,bV with
  |[v1,v2],⟨a1,a2,e1,h1,c1,c2,e2,h2,bE⟩=>
   obtain⟨gq,r1⟩:=h1;obtain⟨z2,r2⟩:=h2;subst gq z2 bE;simp only[List.append_nil] at e2;subst e2;simp only[List.append_nil] at e1;subst e1;obtain⟨b,rfl,eA⟩:=gX r1;have e:=iW r2;subst e;refine .inr ⟨.int .i64 ((Lib.countByte b.data.toList c.toNat.toUInt8:Nat):Int),w,?_,[],[],[.int .i64 ((Lib.countByte s c.toNat.toUInt8:Nat):Int)],Fr.refl _ _,?_,?_,?_,by simp,fun b hb=>by simp at hb⟩
   ·rw[run_callFunc_extern hf rs hb hn he];show((Extern.BytealgCount.count #[.string b,.int .u8 c]).run P w).andThen _=_;rw[Lib.run_countString];rfl
   ·simp[eu,jH]
   ·exact⟨[],[],rfl,⟨rfl,.int _ _⟩,rfl⟩
   ·rw[eA];rfl
end Go.Jk
namespace Go.Jk
open Go.RowKit
def BZ:List Arg->Option (B×B)
 |[.av (.aq (.d (.str s))),.av (.aq (.d (.str p)))]=>some (s,p)
 |_=>none
theorem aho{as:List Arg}{s p:B}(h:BZ as=some (s,p)):as=[.av (.aq (.d (.str s))),.av (.aq (.d (.str p)))]:=by
 unfold BZ at h;split at h
 ·cases h;rfl
 ·cases h
def rB(s p:B):Option Unit:=if s.length<4294967281/\2<=p.length/\p.length<=1000000/\(p.all fun b=>decide (b.toNat<128))=true then some () else none
def FL:aI:=fun as=>match BZ as with
 |some (s,p)=>⟨Unit,rB s p,fun _=>[],fun _=>[.aq (.d (.int .i64 (Lib.indexAny s p)))]⟩
 |none=>.fail
theorem amf{w w':World}(h:Below w.heap.size w w'):Fr [] w w':=⟨h.os,h.tape,h.output,h.size,fun b hb _=>h.block b hb⟩
theorem ajM{P:Program}{g:FuncId}(he:∀args w,(callFunc g args).run P w=.ok (.enter g args) w)
  (h:∀(s p:ByteArray) (w:World),s.size<4294967281->2<=p.size->p.size<=1000000->(∀(j:Nat) b,p.data.toList[j]? =some b->b.toNat<128)->Calls P g #[.string s,.string p] w fun e w'=>e=.returned (.int .i64 (Lib.indexAny s.data.toList p.data.toList))/\Below w.heap.size w w'):aF P g FL:=by
 intro as;unfold FL;cases aC:BZ as with
 |none=>intro y hy;cases hy
 |some q=>
  obtain⟨s,p⟩:=q;have has:=aho aC;subst has;intro y hy w X vs dP bV _ gV hlt hG;have hy:rB s p=some y:=hy;unfold rB at hy;split at hy
  ·rename_i hn;match vs,bV with
   |[v1,v2],⟨a1,a2,e1,h1,c1,c2,e2,h2,bE⟩=>
    obtain⟨gq,r1⟩:=h1;obtain⟨z2,r2⟩:=h2;subst gq z2 bE;simp only[List.append_nil] at e2;subst e2;simp only[List.append_nil] at e1;subst e1;obtain⟨b,rfl,hb⟩:=gX r1;obtain⟨c,rfl,hc⟩:=gX r2;have hs:∀(x:ByteArray) (l:B),x.data.toList=l->x.size=l.length:=fun x l hx=>by rw[<-hx];exact Lib.size_eq x
    refine .inl ⟨he _ _,(h b c w (by rw[hs b s hb];exact hn.1) (by rw[hs c p hc];exact hn.2.1) (by rw[hs c p hc];exact hn.2.2.1) (fun j x hx=>?_)).mono fun e w' hw=>?_⟩
    ·rw[hc] at hx;have:=List.all_eq_true.1 hn.2.2.2 x (eK hx);simpa using this
    ·obtain⟨rfl,hw⟩:=hw;rw[hb,hc];exact⟨[],[],[.int .i64 (Lib.indexAny s p)],amf hw,rfl,⟨[],[],rfl,⟨rfl,.int _ _⟩,rfl⟩,rfl,by simp,fun b hb=>by simp at hb⟩
  ·cases hy
end Go.Jk
namespace Go.Jk
abbrev OL:=(Int×Unit)×Unit
def lf(nt:Nat):Shape:=⟨[(1,.aq (.ptr 1 0))],[(1,.box [.d (.sl .pack)],.same)],nt⟩
def gP(nt:Nat):Shape:=⟨[(1,.aq (.ptr 1 0)),(13,.aq (.d (.int .i64))),(14,.aq (.d (.int .i64)))],[(1,.box [.d (.sl .pack)],.same)],nt⟩
def ng(nt:Nat)(ps:List aJ):(lf nt).J:=(((),()),((ps,()),()))
def h4(nt:Nat)(ps:List aJ)(n i:Int):(gP nt).J:=(((),(n,(i,()))),((ps,()),()))
noncomputable def four(nt:Nat)(C:Ctx)(st:ao)(m0 m1 m2 m3:Oper):Option ((List (FuncId×List (Nat×Nat)))×(lf nt).J):=
 kX C st m0 fun st=>kX C st m1 fun st=>kX C st m2 fun st=>kX C st m3 fun st=>match st.get 7,st.get 8,st.get 9,st.get 10,st.ai 1 with
  |.av (.aq (.clo a aew)),.av (.aq (.clo b cb)),.av (.aq (.clo c kR)),.av (.aq (.clo d aev)),some (.box 0 _)=>((lf nt).ex st).map fun y=>([(a,aew),(b,cb),(c,kR),(d,aev)],y)
  |_,_,_,_,_=>none
def MJ(nt:Nat):Out->Option (Bool×(gP nt).J)
 |.norm st=>match st.get 15 with
  |.av (.aq (.d (.bool b)))=>((gP nt).ex st).map fun y=>(b,y)
  |_=>none
 |_=>none
def rr(nt:Nat)(os:List aR):Out->Option (Sum (gP nt).J (aH os))
 |.norm st=>((gP nt).ex st).map .inl
 |D=>(hZ os D).map .inr
def W9(nt:Nat):Out->Option (gP nt).J
 |.norm st=>(gP nt).ex st
 |_=>none
def rm{bx:Type}(ps:List aJ)(mk:Int->bx):List (List aJ->Option OL)->Option bx
 |[]=>some (mk 0)
 |c::cs=>(c ps).bind fun r=>bif(r.1.1 !=0) then some (mk r.1.1) else rm ps mk cs
section
variable {P:Program}{U:World}{Z:List Nat}{X:Nat->Prop}{F:Nat->Value}{st:ao}{M:Array Value}{w:World}
theorem pN{D:Oper}{v:Value}{w':World}(h:(execOp (Act.eval ⟨M,[]⟩) D).run P w=.ok (.value v) w'){rn:Option Nat}{ds:List Deferred}{K:Act->World->Prop}{Q:Exit->Act->World->Prop}
  (hk:K ⟨cQ M D.dst v,ds⟩ w'):D.wpIn (e8 rn) 0 P ⟨M,ds⟩ w K Q:=by
 refine Oper.wpIn_mono ?_ (KJ (K:=fun a w2=>a=⟨cQ M D.dst v,[]⟩/\w2=w') (fun _ _ h=>by rw[h.1]) (pM h ⟨rfl,rfl⟩) rn ds)
 rintro a w2 ⟨v',rfl,h1,rfl⟩;simp only[Act.mk.injEq,and_true] at h1;rw[h1];exact hk
theorem run_move{D:Oper}{x:Operand}(aP:D.op=.move x\/D.op=.assign x):(execOp (Act.eval ⟨M,[]⟩) D).run P w=.ok (.value (Act.eval ⟨M,[]⟩ x)) w:=by
 unfold execOp;rcases aP with aP|aP<;>simp only[aP,Sem.run_pure]
theorem az.K6(S:az U Z X F st M w){ca:Array Value}(h:∀t,ca.getD t undef=M.getD t undef\/st.get t=.av (.aq .any))(hs:ca.size=M.size):az U Z X F st ca w:=by
 refine⟨hs.trans S.nt,fun t=>?_,S.sites,S.eD,S.cF,S.frame,S.old,S.fw⟩
 rcases h t with h|h
 ·rw[h];exact S.c8 t
 ·rw[h];trivial
theorem IF{nt:Nat}{ps:List aJ}{t:Nat}(h:t≠1):((lf nt).st (ng nt ps)).get t=.av (.aq .any):=by
 show(match look [(1,cf (.ptr 1 0 0))] t with|some v=>v|none=>.av (.aq .any))=_
 simp only[look];rw[ke (fun e=>h e.symm)]
 rfl
theorem ID{nt:Nat}{ps:List aJ}{n i:Int}{t:Nat}(h:t≠1)(h3:t≠13)(aD:t≠14):((gP nt).st (h4 nt ps n i)).get t=.av (.aq .any):=by
 show(match look [(1,cf (.ptr 1 0 0)),(13,one (.int .i64 n)),(14,one (.int .i64 i))] t with|some v=>v|none=>.av (.aq .any))=_
 simp only[look];rw[ke (fun e=>h e.symm),ke (fun e=>h3 e.symm),ke (fun e=>aD e.symm)]
 rfl
theorem py{M:Array Value}{t:Nat}{v:Value}(h:t<M.size):(cQ M (some t) v).getD t undef=v:=by
 simp[cQ,Array.getD_eq_getD_getElem?,h]
theorem kt{M:Array Value}{d:Option Nat}{v:Value}:(cQ M d v).size=M.size:=by cases d<;>simp[cQ]
structure aoA(P:Program)(C:io)(nt:Nat)(os:List aR)(T e:TypeId)(m0 m1 m2 m3 m4 m5 n0 n1 n2 q0 r0 r1 r2:Oper)(i3:Nat)(BB r8 E:Code)(p3 pB p8 pE:Nat)(g0 g1 g2 g3:FuncId)(c0 c1 c2 c3:List aJ->Option OL)(mk:Int->aH os):Prop where
 rQ:P.underlying T=some (.slice e)
 Mw:C.tt e=.func
 aY:m0.guard=none/\m1.guard=none/\m2.guard=none/\m3.guard=none/\m4.guard=none/\m5.guard=none/\n0.guard=none/\n1.guard=none/\n2.guard=none/\r0.guard=none/\r1.guard=none/\r2.guard=none
 N_:m4.op=.buildSlice T 4 #[(0,.tmp 7),(1,.tmp 8),(2,.tmp 9),(3,.tmp 10)]/\m5.op=.assign (.tmp 11)
 on:n0.op=.move (.tmp 3)/\n1.op=.call {callee:=.builtin .len,args:=#[.tmp 12],argTypes:=#[T]}/\n2.op=.move (.const (.int .i64 0))
 Eb:r0.op=.indexAddr T (.tmp 12) (.tmp 14)/\r1.op=.load e (.tmp 16)/\r2.op=.assign (.tmp 17)
 dst:m4.dst=some 11/\m5.dst=some 3/\n0.dst=some 12/\n1.dst=some 13/\n2.dst=some 14/\r0.dst=some 16/\r1.dst=some 17/\r2.dst=some 5
 Lh:20<=nt
 MD:hH BB=true
 acq:hH r8=true
 acp:hH E=true
 wr:fv [1,12,ib] (q0.dst.toList++(cJ BB++(cJ r8++(m0.dst.toList++(m1.dst.toList++(m2.dst.toList++m3.dst.toList))))))=true
 axu:fv [ib] (cJ E)=true
 k7:gL P C (.region i3 #[q0] false) p3/\gL P C BB pB/\gL P C r8 p8/\gL P C E pE
 hos:∀id st,hZ os (.exit id st)=none
 aD:∀ps,four nt C.toCtx ((lf nt).st (ng nt ps)) m0 m1 m2 m3=some ([(g0,[(1,0)]),(g1,[(1,0)]),(g2,[(1,0)]),(g3,[(1,0)])],ng nt ps)
 xc:∀ps n i,(gP nt).ex ((((lf nt).st (ng nt ps)).set 13 (one (.int .i64 n))).set 14 (one (.int .i64 i)))=some (h4 nt ps n i)
 hlt:∀ps n i,exec C (.region i3 #[q0] false) p3 ((gP nt).st (h4 nt ps n i)) (MJ nt)=some (decide (i<n),h4 nt ps n i)
 hB:∀gc,gc∈[(g0,c0),(g1,c1),(g2,c2),(g3,c3)]->∀ps n i,exec C BB pB (((gP nt).st (h4 nt ps n i)).set 5 (cf (.clo gc.1 [(1,0)]))) (rr nt os)=(gc.2 ps).bind fun r=>bif(r.1.1 !=0) then some (.inr (mk r.1.1)) else some (.inl (h4 nt ps n i))
 h8:∀ps n i,exec C r8 p8 ((gP nt).st (h4 nt ps n i)) (W9 nt)=some (h4 nt ps n (IntKind.i64.wrap (i+1)))
 hE:∀ps n i,exec C E pE ((gP nt).st (h4 nt ps n i)) (hZ os)=some (mk 0)
end
section
variable {P:Program}{C:io}
theorem akK{T e:TypeId}(bp:P.underlying T=some (.slice e))(he:(P.info? e).map (fun i=>(i.size,i.zero))=some (1,some .nilFunc)){v0 v1 v2 v3:Value}(h:∀v∈[v0,v1,v2,v3],v.cells=#[v])(w:World):
  (Instr.buildSlice T 4 #[(0,v0),(1,v1),(2,v2),(3,v3)]).run P w=.ok (.slice (some ⟨w.heap.size,0,none⟩) 4 4) (w.alloc (.cells #[v0,v1,v2,v3] e)):=by
 cases hi:P.info? e with
 |none=>simp[hi] at he
 |some i=>
  simp only[hi,Option.map_some,bH,Prod.mk.injEq] at he;refine run_buildSlice w T e 4 _ _ i .nilFunc bp hi he.2 (by rw[he.1];decide) (by rw[he.1];decide) ?_
  have hz:(((Array.range (4*i.size)).map fun x=>(Value.nilFunc).cells[x%(Value.nilFunc).cells.size]!)).size=4:=by simp[he.1]
  have:=Qa 1 [(0,v0),(1,v1),(2,v2),(3,v3)] 0 ((Array.range (4*i.size)).map fun x=>(Value.nilFunc).cells[x%(Value.nilFunc).cells.size]!)
   (fun j hj=>by
    match j,hj with
    |0,_=>rfl
    |1,_=>rfl
    |2,_=>rfl
    |3,_=>rfl) (fun p hp=>by
     have:p.2∈[v0,v1,v2,v3]:=by
      simp only[bR,List.not_mem_nil,or_false] at hp ⊢;rcases hp with rfl|rfl|rfl|rfl<;>simp
     rw[h _ this];rfl) (by rw[hz];simp)
  rw[he.1] at this hz ⊢;simp only;rw[this];have hc:([(0,v0),(1,v1),(2,v2),(3,v3)].flatMap fun p:Nat×Value=>p.2.cells.toList)=[v0,v1,v2,v3]:=by
   simp only[List.flatMap_cons,List.flatMap_nil,h v0 (by simp),h v1 (by simp),h v2 (by simp),h v3 (by simp)]
   rfl
  rw[hc];congr 2
  unfold bZ;rw[Nat.zero_mul,List.take_zero,List.nil_append,Nat.zero_add,List.drop_eq_nil_of_le (by simp),List.append_nil]
theorem agZ(H:aT P C.toCtx){nt:Nat}{os:List aR}{T e:TypeId}{m0 m1 m2 m3 m4 m5 n0 n1 n2 q0 r0 r1 r2:Oper}{i1 i2 i3 i4:Nat}{BB r8 E:Code}{p3 pB p8 pE:Nat}{g0 g1 g2 g3:FuncId}{c0 c1 c2 c3:List aJ->Option OL}{mk:Int->aH os}
  (K:aoA P C nt os T e m0 m1 m2 m3 m4 m5 n0 n1 n2 q0 r0 r1 r2 i3 BB r8 E p3 pB p8 pE g0 g1 g2 g3 c0 c1 c2 c3 mk) {g:(lf nt).J->Option (aH os)} (hg:∀ps,g (ng nt ps)=rm ps mk [c0,c1,c2,c3]) {code:Code}
  (tZ:code=.seq (.region i1 #[m0,m1,m2,m3,m4,m5] false) (.seq (.seq (.region i2 #[n0,n1,n2] false) (.block 0 (.loop (.seq (.region i3 #[q0] false) (.seq (.cond (.tmp 15) .skip (.exit 0)) (.seq (.block 1 (.seq (.region i4 #[r0,r1,r2] false) BB)) r8)))))) E)):
  aV P code (aX (lf nt) os g):=by
 intro rn hn U Z X st y hy F M w ds S;simp only[aX] at hy y ⊢;obtain⟨dT,MO,Ek⟩:=Option.bind_eq_some_iff.1 hy;obtain⟨ps,o6⟩:∃ps,dT=ng nt ps:=⟨dT.2.1.1,rfl⟩;subst o6;rw[hg] at Ek;obtain⟨mR,pr,_⟩:=Shape.gK S MO;obtain⟨lC,x5⟩:∃lC,lC=cJ code:=⟨_,rfl⟩;have jQ:=fun t (ay:t∈[1,12,ib])=>wN K.wr ay
 simp only[bo,not_or] at jQ;have Eh:∀t,t∉lC->(t∉m0.dst.toList/\t∉m1.dst.toList/\t∉m2.dst.toList/\t∉m3.dst.toList)/\(t≠11/\t≠3/\t≠12/\t≠13/\t≠14/\t≠16/\t≠17/\t≠5)/\(t∉q0.dst.toList/\t∉cJ BB/\t∉cJ r8/\t∉cJ E):=by
  intro t ay;rw[x5,tZ] at ay;simp only[cJ,i_,K.dst.1,K.dst.2.1,K.dst.2.2.1,K.dst.2.2.2.1,K.dst.2.2.2.2.1,K.dst.2.2.2.2.2.1,K.dst.2.2.2.2.2.2.1,K.dst.2.2.2.2.2.2.2,bo,not_or,Option.toList_some,bR,List.not_mem_nil,or_false,List.append_nil,List.nil_append,List.append_assoc] at ay;obtain⟨eU,ep,gr,jX,ad6,aBm,aBl,N6,aBk,aBj,axt,axs,axr,axq,axp,axo⟩:=ay;exact⟨⟨eU,ep,gr,jX⟩,⟨ad6,aBm,aBl,N6,aBk,axt,axs,axr⟩,aBj,axq,axp,axo⟩
 have tN:(P.info? e).map (fun i=>(i.size,i.zero))=some (1,some .nilFunc):=by
  have:=H.tt e;rw[K.Mw] at this;obtain⟨_,_,_,h⟩:=this;exact h.2.2.2
 have kG:∀{a':World} {ec:List Nat} {dp:Nat->Prop} {Ny:List Deferred} {is:Array Value} {W1:List Nat} {e7:ao} {a:Act} {w2:World},ib∉W1->jg a' ec dp->eX a' ec dp Ny is W1 e7 a w2->
   a.defers=Ny/\∃F,az a' ec dp F e7 a.tmps w2/\∀t,t∉W1->a.tmps.getD t undef=is.getD t undef:=by
  rintro a' ec dp Ny is W1 e7 a w2 hm hG ⟨EU,Oh,lB,F,eg,bx,fB,⟨d1,d2⟩,aBP,yu⟩;have:=d2 hm;subst this;exact⟨d1,F,(az.BY bx hG aBP).shrink bx.x,yu⟩
 rw[tZ];refine gI.of (n:=0) (wpIn_seq (wpIn_region ?_));obtain⟨aB7,aB6,aB5,OI,OH,aB4,E_,aB3,E9,E8,ER,aBc⟩:=K.aY;obtain⟨aeK,aeJ,aeI,OJ,E',aeH,ad3,ad2⟩:=K.dst;rw[show List.range (#[m0,m1,m2,m3,m4,m5]:Array Oper).size=[0,1,2,3,4,5] from rfl]
 simp only[wpOpsIn,List.getElem?_toArray,List.getElem?_cons_zero,List.getElem?_cons_succ,Region.wanted,aB7,aB6,aB5,OI,OH,aB4,if_true];refine oo pr H (K.aD ps) fun aDu ld aDr EU yC vf sB=>?_
 refine oo vf H yC fun aDt abg N8 u_ yB yI sA=>?_
 refine oo yI H yB fun sc awW aDq aBn aBH po yy=>?_
 refine oo po H aBH fun aBs awV mi wd E2 E6 yx=>?_
 split at E2;case h_2=>cases E2
 rename_i a aew b cb c kR d aev aCp oc Oj Oi x_ azr;obtain⟨aDn,aya,hye⟩:=Option.map_eq_some_iff.1 E2;simp only[Prod.mk.injEq,List.cons.injEq,and_true] at hye;obtain⟨⟨⟨rfl,rfl⟩,⟨rfl,rfl⟩,⟨rfl,rfl⟩,rfl,rfl⟩,rfl⟩:=hye;obtain⟨xw,nk,ayq⟩:=Shape.gK E6 aya;have Lo:xw 1=awV 1:=ayq 1 _ cj;have ayr:look ((lf nt).st (ng nt ps)).sites 1=some (.box 0 [.d (.sl .pack ps)]):=rfl;obtain⟨gT,Ep⟩:∃gT,gT=mi.getD 1 undef:=⟨_,rfl⟩;have uN:xw 1=gT:=by
  have:=nk.c8 1;have o9:((lf nt).st (ng nt ps)).get 1=cf (.ptr 1 0 0):=rfl;rw[o9] at this;obtain⟨b,hb,hr⟩:=this;rw[Ep,hb];exact Ref.at hr ayr rfl
 have De:∀{t:Nat} {Og:FuncId},aBs.get t=.av (.aq (.clo Og [(1,0)]))->mi.getD t undef=.func (.func Og) #[] #[gT]:=by
  intro t Og h;have:=E6.c8 t;rw[h] at this;obtain⟨vs,h1,h2,h3⟩:=this;match vs,h2 with
  |[v],_=>
   have aD:=Ref.at (h3 0 (by simp) (by simp)) azr rfl
   simp only[List.getElem_cons_zero] at aD;rw[h1,aD,<-Lo,uN]
 have ET:=De oc;have ad5:=De Oj;have z9:=De Oi;have Mt:=De x_;have abw:mi.size=nt:=nk.nt;have Lh:=K.Lh;obtain⟨bx,hB⟩:∃bx,bx=wd.heap.size:=⟨_,rfl⟩;obtain⟨eL,wS⟩:∃eL:Array Value,eL=#[.func (.func a) #[] #[gT],.func (.func b) #[] #[gT],.func (.func c) #[] #[gT],.func (.func d) #[] #[gT]]:=⟨_,rfl⟩;have atJ:(execOp (Act.eval ⟨mi,[]⟩) m4).run P wd=.ok (.value (.slice (some ⟨bx,0,none⟩) 4 4)) (wd.alloc (.cells eL e)):=by
  have aBv:Act.eval ⟨mi,[]⟩ (.tmp 7)=_:=ET;have aBu:Act.eval ⟨mi,[]⟩ (.tmp 8)=_:=ad5;have aBt:Act.eval ⟨mi,[]⟩ (.tmp 9)=_:=z9;have axP:Act.eval ⟨mi,[]⟩ (.tmp 10)=_:=Mt;have:=akK (P:=P) K.rQ tN (v0:=.func (.func a) #[] #[gT]) (v1:=.func (.func b) #[] #[gT]) (v2:=.func (.func c) #[] #[gT]) (v3:=.func (.func d) #[] #[gT]) (fun v hv=>by
   simp only[bR,List.not_mem_nil,or_false] at hv;rcases hv with rfl|rfl|rfl|rfl<;>rfl) wd
  unfold execOp;simp only[K.N_.1,List.map_toArray,List.map_cons,List.map_nil,aBv,aBu,aBt,axP,Sem.run_bind,this,Result.andThen_ok,Sem.run_pure,hB,wS]
 refine pN atJ ?_
 have Nx:(cQ mi m4.dst (.slice (some ⟨bx,0,none⟩) 4 4)).getD 11 undef=.slice (some ⟨bx,0,none⟩) 4 4:=by rw[aeK];exact py (by omega)
 refine pN (run_move (.inr K.N_.2)) ?_
 have auB:Act.eval ⟨cQ mi m4.dst (.slice (some ⟨bx,0,none⟩) 4 4),[]⟩ (.tmp 11)=.slice (some ⟨bx,0,none⟩) 4 4:=Nx;rw[auB];obtain⟨t3,En⟩:∃t3,t3=cQ (cQ mi m4.dst (.slice (some ⟨bx,0,none⟩) 4 4)) m5.dst (.slice (some ⟨bx,0,none⟩) 4 4):=⟨_,rfl⟩;rw[<-En];have D':t3.size=nt:=by rw[En,kt,kt,abw]
 have axC:t3.getD 3 undef=.slice (some ⟨bx,0,none⟩) 4 4:=by rw[En,aeJ];exact py (by rw[kt];omega)
 have bP:∀t,t≠11->t≠3->t3.getD t undef=mi.getD t undef:=fun t h1 h2=>by
  rw[En,aeK,aeJ,jE (by simpa using fun e=>h2 e),jE (by simpa using fun e=>h1 e)]
 obtain⟨wf,rV⟩:∃wf,wf=wd.alloc (.cells eL e):=⟨_,rfl⟩;rw[<-rV];have aCZ:wf.heap.size=wd.heap.size+1:=by rw[rV];simp
 have Xj:∀b,b<wd.heap.size->wf.heap[b]? =wd.heap[b]? :=fun b hb=>by rw[rV];exact RowKit.Below.heap_alloc _ _ _ hb
 have azb:wf.heap[bx]? =some (.cells eL e):=by rw[rV,hB];exact World.alloc_heap_new wd _
 have adf:=nk.jump (w':=wf) (fun b _ hb=>Xj b hb) (by omega) (by
  refine⟨by rw[rV];exact nk.frame.os,by rw[rV];exact nk.frame.tape,by rw[rV];exact nk.frame.output,by have:=nk.frame.size;omega,fun b hb hn=>?_⟩
  have:=nk.frame.size;rw[Xj b (by omega)];exact nk.frame.block b hb hn)
 obtain⟨cP,nc⟩:∃cP:Nat->Prop,cP=fun b=>X b\/(wd.heap.size<=b/\b<wf.heap.size):=⟨_,rfl⟩
 rw[<-nc] at adf;have aBi:cP bx:=by rw[nc];exact .inr ⟨by omega,by omega⟩
 have No:∀b,X b->cP b:=fun b hb=>by rw[nc];exact .inl hb
 have NH:az U Z cP xw ((lf nt).st (ng nt ps)) t3 wf:=adf.K6 (fun t=>by
  by_cases azg:t=11
  ·exact .inr (IF (by omega))
  ·by_cases h3:t=3
   ·exact .inr (IF (by omega))
   ·exact .inl (bP t azg h3)) (by rw[D',abw])
 obtain⟨fl,Z4⟩:∃fl,fl=jj xw ((lf nt).st (ng nt ps)).sites:=⟨_,rfl⟩;have K_:∀b,b∈fl->¬cP b/\(b∈Z\/U.heap.size<=b):=fun b hb=>by
  rw[Z4] at hb;obtain⟨o,q1,q2⟩:=oq.1 hb;exact NH.cF o b q1 q2
 have EG:az wf fl cP xw ((lf nt).st (ng nt ps)) t3 wf:=NH.Ch (fun o b q1 q2=>by rw[Z4];exact oq.2 ⟨o,q1,q2⟩) fun b hb=>(K_ b hb).2
 have OM:iM U Z X wf fl cP:=by
  have:=NH.base fun b hb=>(K_ b hb).2
  exact⟨this.c4,this.cF,No⟩
 have aBe:bx∉fl:=fun h=>(K_ bx h).1 aBi
 refine wpIn_seq (wpIn_seq (wpIn_region ?_));rw[show List.range (#[n0,n1,n2]:Array Oper).size=[0,1,2] from rfl]
 simp only[wpOpsIn,List.getElem?_toArray,List.getElem?_cons_zero,List.getElem?_cons_succ,Region.wanted,E_,aB3,E9,if_true];refine pN (run_move (.inl K.on.1)) ?_
 have azp:Act.eval ⟨t3,[]⟩ (.tmp 3)=.slice (some ⟨bx,0,none⟩) 4 4:=axC;rw[azp];obtain⟨t4,xV⟩:∃t4,t4=cQ t3 n0.dst (.slice (some ⟨bx,0,none⟩) 4 4):=⟨_,rfl⟩;rw[<-xV];have XQ:t4.getD 12 undef=.slice (some ⟨bx,0,none⟩) 4 4:=by rw[xV,aeI];exact py (by omega)
 have atG:(execOp (Act.eval ⟨t4,[]⟩) n1).run P wf=.ok (.value (.int .i64 4)) wf:=by
  have q:Act.eval ⟨t4,[]⟩ (.tmp 12)=.slice (some ⟨bx,0,none⟩) 4 4:=XQ;unfold execOp;simp only[K.on.2.1,resolve,invoke,builtin,Sem.run_bind,Sem.run_pure,Result.andThen_ok,List.map_toArray,List.map_cons,List.map_nil,q];simp[Builtin.len_,run_underlying K.rQ,goInt]
 refine pN atG ?_
 refine pN (run_move (.inl K.on.2.2)) ?_
 have azq:∀(tt:Array Value),Act.eval ⟨tt,[]⟩ (.const (.int .i64 0))=.int .i64 0:=fun _=>rfl
 rw[azq];obtain⟨t5,uJ⟩:∃t5,t5=cQ (cQ t4 n1.dst (.int .i64 4)) n2.dst (.int .i64 0):=⟨_,rfl⟩;rw[<-uJ];have axH:t5.size=nt:=by rw[uJ,kt,kt,xV,kt,D']
 have aC0:t4.size=nt:=by rw[xV,kt,D']
 have fA:∀t,t≠12->t≠13->t≠14->t5.getD t undef=t3.getD t undef:=fun t h1 h2 h3=>by
  rw[uJ,OJ,E',jE (by simpa using fun e=>h3 e),jE (by simpa using fun e=>h2 e),xV,aeI,jE (by simpa using fun e=>h1 e)]
 have atB:t5.getD 12 undef=.slice (some ⟨bx,0,none⟩) 4 4:=by rw[uJ,OJ,E',jE (by simp),jE (by simp)];exact XQ
 have atA:t5.getD 13 undef=.int .i64 4:=by rw[uJ,OJ,E',jE (by simp)];exact py (by omega)
 have atz:t5.getD 14 undef=.int .i64 0:=by rw[uJ,E'];exact py (by rw[kt];omega)
 have v51:t5.getD 1 undef=gT:=by rw[fA 1 (by omega) (by omega) (by omega),bP 1 (by omega) (by omega),Ep]
 have Oz:∃F,az wf fl cP F ((gP nt).st (h4 nt ps 4 0)) t5 wf:=by
  have A:=EG.K6 (ca:=t5) (fun t=>by
   by_cases h1:t=1
   ·subst h1;exact .inl (fA 1 (by omega) (by omega) (by omega))
   ·exact .inr (IF h1)) (by rw[axH,D'])
  have OP:=(A.nA (t:=13) (v:=one (.int .i64 4)) (by rw[atA];exact .int _ _)).nA (t:=14) (v:=one (.int .i64 0)) (by rw[atz];exact .int _ _)
  obtain⟨F,OO,_⟩:=Shape.gK OP (K.xc ps 4 0);exact⟨F,OO⟩
 have ax2:∀t,t∉lC->t5.getD t undef=M.getD t undef:=fun t ay=>by
  obtain⟨⟨dT,cV,dD,dZ⟩,⟨ix,fb,fo,N3,aBh,_⟩,_⟩:=Eh t ay;rw[fA t fo N3 aBh,bP t ix fb,yx t dZ,yy t dD,sA t cV,sB t dT]
 obtain⟨cs,hcs⟩:∃cs,cs=[c0,c1,c2,c3]:=⟨_,rfl⟩;obtain⟨sJ,sg⟩:∃sJ:Nat->Array Value->World->Prop,∀i t w,sJ i t w <-> (∃F,az wf fl cP F ((gP nt).st (h4 nt ps 4 i)) t w)/\t.getD 12 undef=.slice (some ⟨bx,0,none⟩) 4 4/\t.getD 1 undef=gT/\(∀u,u∉lC->t.getD u undef=M.getD u undef):=
  ⟨_,fun _ _ _=>Iff.rfl⟩
 have Nu:∀{i:Nat} {t:Array Value} {w:World},sJ i t w->t.getD 14 undef=.int .i64 i:=fun h=>by
  obtain⟨⟨F,S⟩,_⟩:=(sg _ _ _).1 h;exact R_ S (t:=14) rfl
 have gone:∀{st:ao} {t:Array Value} {w:World},(∃F,az wf fl cP F st t w)->(∀u,u∉lC->t.getD u undef=M.getD u undef)->eX U Z X ds M lC st ⟨t,ds⟩ w:=by
  rintro st t w ⟨F,S⟩ yu;exact⟨wf,fl,cP,F,[],OM,Marks.nil _ _ _ _,⟨rfl,fun _=>rfl⟩,S,yu⟩
 have ending:∀{i:Nat} {t:Array Value} {w:World},sJ i t w->mk 0=y->gI rn P E (fD U Z X ds M lC (mc os y)) ⟨t,ds⟩ w:=by
  intro i t w h hm;obtain⟨⟨F,S⟩,_,_,yu⟩:=(sg _ _ _).1 h;refine j5 H E pE (.inr K.acp) K.k7.2.2.2 wf fl cP _ F t w ds (hZ os) _ (K.hE ps 4 i) S ?_
  intro D e a w2 hk hl;rw[<-hm];have hl:=vD hk hl;have:=fD.trans (W1:=lC) OM (Marks.nil U wf fl cP) (fun _=>rfl) yu hl
  exact this.mono fun t ay=>by
   rcases bo.1 ay with h|h
   ·exact h
   ·rw[x5,tZ];simp only[cJ,bo];exact .inr (.inr h)
 refine wpIn_block (wpIn_loop (I:=fun a w=>∃(i:Nat) (t:Array Value),a=⟨t,ds⟩/\i<=4/\sJ i t w/\rm ps mk (cs.drop i)=some y)
  (μ:=fun a w=>match a.tmps.getD 14 undef with|.int _ i=>(4-i).toNat|_=>0) ⟨0,t5,rfl,by omega,(sg _ _ _).2 ⟨Oz,atB,v51,ax2⟩,by rw[hcs];exact Ek⟩ ?_)
 rintro yG pi ⟨i,t6,rfl,Nc,cl,mZ⟩;have MM:(match t6.getD 14 undef with|.int _ i=>(4-i).toNat|_=>0)=4-i:=by rw[Nu cl];simp only;omega
 simp only[MM];obtain⟨⟨awX,Oy⟩,aty,axB,h9⟩:=(sg _ _ _).1 cl;refine wpIn_seq (j5 H (.region i3 #[q0] false) p3 (.inr rfl) K.k7.1 wf fl cP _ awX t6 pi ds (MJ nt) _ (K.hlt ps 4 i) Oy ?_);intro N' azt yF jY ll qt;cases N' with
 |exit id st=>cases ll
 |ret st=>cases ll
 |norm axJ=>
 cases azt<;>try exact qt.elim
 have axZ:ib∉cJ (.region i3 #[q0] false):=by
  show ib∉i_ [q0];simp only[i_,List.append_nil];exact(jQ ib (by simp)).1
 obtain⟨d7,aCU,E7,MI⟩:=kG axZ EG.fw qt;obtain⟨t7,qz⟩:=yF;have d7:qz=ds:=d7;subst d7;simp only[MJ] at ll;split at ll;case h_2=>cases ll
 rename_i oe uW;obtain⟨aCV,at0,ZU⟩:=Option.map_eq_some_iff.1 ll;simp only[Prod.mk.injEq] at ZU;obtain⟨rfl,rfl⟩:=ZU;have atx:=Ga E7 uW;obtain⟨asc,azV,_⟩:=Shape.gK E7 at0;have axO:(12:Nat)∉cJ (.region i3 #[q0] false):=by
  show 12∉i_ [q0];simp only[i_,List.append_nil];exact(jQ 12 (by simp)).1
 have q1:(1:Nat)∉cJ (.region i3 #[q0] false):=by
  show 1∉i_ [q0];simp only[i_,List.append_nil];exact(jQ 1 (by simp)).1
 have iB:sJ i t7 jY:=(sg _ _ _).2 ⟨⟨asc,azV⟩,(MI 12 axO).trans aty,(MI 1 q1).trans axB,fun u hu=>(MI u (by
  show u∉i_ [q0];simp only[i_,List.append_nil];exact(Eh u hu).2.2.1)).trans (h9 u hu)⟩
 have DE:Act.eval ⟨t7,qz⟩ (.tmp 15)=.bool (decide ((i:Int)<4)):=atx;by_cases hlt:(i:Int)<4;case neg=>
  rw[decide_eq_false hlt] at DE;refine wpIn_seq (wpIn_cond DE (wpIn_exit ?_));have hi:i=4:=by omega
  subst hi;have hm:mk 0=y:=by rw[hcs] at mZ;simpa[rm] using mZ
  have:=ending iB hm;rw[x5,tZ] at this;exact this
 rw[decide_eq_true hlt] at DE;refine wpIn_seq (wpIn_cond DE (wpIn_skip ?_));refine wpIn_seq (wpIn_block (wpIn_seq (wpIn_region ?_)));rw[show List.range (#[r0,r1,r2]:Array Oper).size=[0,1,2] from rfl]
 simp only[wpOpsIn,List.getElem?_toArray,List.getElem?_cons_zero,List.getElem?_cons_succ,Region.wanted,E8,ER,aBc,if_true];obtain⟨⟨xx,pq⟩,XP,abr,Oc⟩:=(sg _ _ _).1 iB;have atw:=Nu iB;have axG:(sizeOf e).run P jY=.ok 1 jY:=by
  cases aC:P.info? e with
  |none=>rw[aC] at tN;cases tN
  |some inf=>
   rw[aC] at tN;simp only[Option.map_some,bH,Prod.mk.injEq] at tN;simp[sizeOf,lF aC,tN.1]
 have atI:(execOp (Act.eval ⟨t7,[]⟩) r0).run P jY=.ok (.value (.pointer (some ⟨bx,i,none⟩))) jY:=by
  have gq:Act.eval ⟨t7,[]⟩ (.tmp 12)=.slice (some ⟨bx,0,none⟩) 4 4:=XP;have z2:Act.eval ⟨t7,[]⟩ (.tmp 14)=.int .i64 i:=atw;unfold execOp;simp[K.Eb.1,gq,z2,Instr.indexAt,asIntOf,run_underlying K.rQ,hlt,axG,hK];intro h;omega
 refine pN atI ?_
 obtain⟨t8,uI⟩:∃t8,t8=cQ t7 r0.dst (.pointer (some ⟨bx,i,none⟩)):=⟨_,rfl⟩;rw[<-uI];have abx:t7.size=nt:=pq.nt;have atv:t8.getD 16 undef=.pointer (some ⟨bx,i,none⟩):=by rw[uI,aeH];exact py (by omega)
 have azc:jY.heap[bx]? =some (.cells eL e):=by
  rw[pq.frame.block bx (by omega) aBe];exact azb
 obtain⟨lz,E3,ayM,ayi,hci⟩:∃lz E3,(lz,E3)∈[(a,c0),(b,c1),(c,c2),(d,c3)]/\eL[i]? =some (.func (.func lz) #[] #[gT])/\∃Oq,cs.drop i=E3::Oq/\Oq=cs.drop (i+1):=by
  have:i=0\/i=1\/i=2\/i=3:=by omega
  rcases this with rfl|rfl|rfl|rfl
  ·exact⟨a,c0,by simp,by rw[wS];rfl,_,by rw[hcs];rfl,by rw[hcs];rfl⟩
  ·exact⟨b,c1,by simp,by rw[wS];rfl,_,by rw[hcs];rfl,by rw[hcs];rfl⟩
  ·exact⟨c,c2,by simp,by rw[wS];rfl,_,by rw[hcs];rfl,by rw[hcs];rfl⟩
  ·exact⟨d,c3,by simp,by rw[wS];rfl,_,by rw[hcs];rfl,by rw[hcs];rfl⟩
 obtain⟨Oq,wU,ayS⟩:=hci;have atH:(execOp (Act.eval ⟨t8,[]⟩) r1).run P jY=.ok (.value (.func (.func lz) #[] #[gT])) jY:=by
  have gq:Act.eval ⟨t8,[]⟩ (.tmp 16)=.pointer (some ⟨bx,i,none⟩):=atv;have hl:=vj (P:=P) (w:=jY) (T:=e) (ti:=.func) (by have:=H.tt e;rw[K.Mw] at this;exact this) (by intro h;cases h) ⟨bx,i,none⟩ [.func (.func lz) #[] #[gT]] rfl (fun j u hu=>by
   match j,hu with
   |0,hu=>
    cases hu;rw[hK];simp[World.cell?,azc,ayi])
  unfold execOp;simp only[K.Eb.2.1,Instr.loadAt,Instr.sureAddr,gq,Sem.run_bind,Sem.run_pure,Result.andThen_ok,hl];rfl
 refine pN atH ?_
 refine pN (run_move (.inr K.Eb.2.2)) ?_
 obtain⟨t9,xU⟩:∃t9,t9=cQ t8 r1.dst (.func (.func lz) #[] #[gT]):=⟨_,rfl⟩;rw[<-xU];have auA:Act.eval ⟨t9,[]⟩ (.tmp 17)=.func (.func lz) #[] #[gT]:=by
  show t9.getD 17 undef=_;rw[xU,ad3];exact py (by rw[uI,kt];omega)
 rw[auA];obtain⟨t10,DA⟩:∃t10,t10=cQ t9 r2.dst (.func (.func lz) #[] #[gT]):=⟨_,rfl⟩;rw[<-DA];have atD:t10.size=nt:=by rw[DA,kt,xU,kt,uI,kt,abx]
 have Eg:∀u,u≠16->u≠17->u≠5->t10.getD u undef=t7.getD u undef:=fun u h1 h2 h3=>by
  rw[DA,ad2,jE (by simpa using fun e=>h3 e),xU,ad3,jE (by simpa using fun e=>h2 e),uI,aeH,jE (by simpa using fun e=>h1 e)]
 have v105:t10.getD 5 undef=.func (.func lz) #[] #[gT]:=by rw[DA,ad2];exact py (by rw[xU,kt,uI,kt];omega)
 have lr:az wf fl cP xx ((gP nt).st (h4 nt ps 4 i)) t10 jY:=pq.K6 (fun u=>by
  by_cases h1:u=16
  ·exact .inr (ID (by omega) (by omega) (by omega))
  ·by_cases h2:u=17
   ·exact .inr (ID (by omega) (by omega) (by omega))
   ·by_cases h3:u=5
    ·exact .inr (ID (by omega) (by omega) (by omega))
    ·exact .inl (Eg u h1 h2 h3)) (by rw[atD,abx])
 have u5:=lr.nA (t:=5) (v:=cf (.clo lz [(1,0)])) (by
  rw[v105];refine⟨[gT],rfl,rfl,fun j hj kl=>?_⟩
  match j,hj,kl with
  |0,_,_=>
   have:=pq.c8 1;have o9:((gP nt).st (h4 nt ps 4 i)).get 1=cf (.ptr 1 0 0):=rfl;rw[o9] at this;obtain⟨bS,eA,dq⟩:=this;refine⟨.box 0 [.d (.sl .pack ps)],rfl,Nat.le_refl _,fun _=>?_⟩
   have h2:=Ref.at dq (ai:=.box 0 [.d (.sl .pack ps)]) rfl rfl;show gT=xx 1;rw[h2,<-eA,abr])
 rw[wU] at mZ;simp only[rm] at mZ;obtain⟨aef,ayt,mZ⟩:=Option.bind_eq_some_iff.1 mZ;have x8:=K.hB (lz,E3) ayM ps 4 i;simp only[ayt,Y] at x8;have ZQ:∀u,u∉lC->t10.getD u undef=M.getD u undef:=fun u hu=>by
  obtain⟨_,⟨_,_,_,_,_,axl,axk,fb⟩,_⟩:=Eh u hu;rw[Eg u axl axk fb,Oc u hu]
 have aoU:∀t,t∈cJ BB->t∈lC:=fun t ay=>by
  rw[x5,tZ];simp only[cJ,bo];exact .inr (.inl (.inr (.inr (.inr (.inl (.inr ay))))))
 cases hne:(aef.1.1 !=0) with
 |true=>
  simp only[hne,ad] at x8 mZ;refine j5 H BB pB (.inr K.MD) K.k7.2.1 wf fl cP _ xx t10 jY qz (rr nt os) _ x8 u5 ?_
  intro D cW a12 Mu hk hl;have o8:=fD.trans (W1:=lC) OM (Marks.nil U wf fl cP) (fun _=>rfl) ZQ hl
  have Eu:fD U Z X qz M lC D cW a12 Mu:=o8.mono fun t ay=>by
   rcases bo.1 ay with h|h
   ·exact h
   ·exact aoU t h
  have hy:mk aef.1.1=y:=by simpa using mZ
  cases D with
  |norm w3=>
   obtain⟨z,_,hz⟩:=Option.map_eq_some_iff.1 hk;cases hz
  |exit id w3=>
   obtain⟨dV,fk,hz⟩:=Option.map_eq_some_iff.1 hk;rw[K.hos] at fk;cases fk
  |ret w3=>
   obtain⟨dV,fk,hz⟩:=Option.map_eq_some_iff.1 hk;cases hz;have:=vD fk Eu;rw[hy,x5,tZ] at this;cases cW<;>try exact Eu.elim
   exact this
 |false=>
  simp only[hne,ak] at x8 mZ;refine j5 H BB pB (.inr K.MD) K.k7.2.1 wf fl cP _ xx t10 jY qz (rr nt os) _ x8 u5 ?_
  intro D cW a12 Mu hk hl;cases D with
  |exit id w3=>
   obtain⟨z,_,hz⟩:=Option.map_eq_some_iff.1 hk;cases hz
  |ret w3=>
   obtain⟨z,_,hz⟩:=Option.map_eq_some_iff.1 hk;cases hz
  |norm w3=>
   cases cW<;>try exact hl.elim
   obtain⟨z,hz,ax9⟩:=Option.map_eq_some_iff.1 hk;cases ax9;obtain⟨d12,aCz,sp,Ll⟩:=kG (jQ ib (by simp)).2.1 EG.fw hl
   obtain⟨t12,LI⟩:=a12;have d12:LI=qz:=d12;subst d12;obtain⟨ase,yl,_⟩:=Shape.gK sp hz;refine j5 H r8 p8 (.inr K.acq) K.k7.2.2.1 wf fl cP _ ase t12 Mu LI (W9 nt) _ (K.h8 ps 4 i) yl ?_
   intro Ec azw azJ axv Ly Z2;cases Ec with
   |exit id st=>cases Ly
   |ret st=>cases Ly
   |norm aCB=>
   cases azw<;>try exact Z2.elim
   obtain⟨d14,aCy,qC,Lk⟩:=kG (jQ ib (by simp)).2.2.1 EG.fw Z2
   obtain⟨t14,auG⟩:=azJ;have d14:auG=LI:=d14;subst d14;obtain⟨asd,yk,_⟩:=Shape.gK qC Ly;have arF:IntKind.i64.wrap ((i:Int)+1)=((i+1:Nat):Int):=by rw[wrap_small (by omega) (by omega)];omega
   rw[arF] at yk;have aeo:sJ (i+1) t14 axv:=(sg _ _ _).2 ⟨⟨asd,yk⟩,by
    rw[Lk 12 (jQ 12 (by simp)).2.2.1,Ll 12 (jQ 12 (by simp)).2.1,Eg 12 (by omega) (by omega) (by omega),XP],by
    rw[Lk 1 (jQ 1 (by simp)).2.2.1,Ll 1 (jQ 1 (by simp)).2.1,Eg 1 (by omega) (by omega) (by omega),abr],fun u hu=>by
    obtain⟨_,_,_,gq,z2,_⟩:=Eh u hu;rw[Lk u z2,Ll u gq,ZQ u hu]⟩
   refine⟨⟨i+1,t14,rfl,by omega,aeo,by rw[ayS] at mZ;exact mZ⟩,?_⟩
   rw[Nu aeo];simp only;omega
end
theorem sL{P:Program}{f:FuncId}{vs:Array Value}{w:World}{rv:Value}{Q:World->Prop}{R:Value->World->Prop}(he:(callFunc f vs).run P w=.ok (.enter f vs) w)
  (h:Calls P f vs w fun e w'=>e=.returned rv/\Q w') (hR:∀w',Q w'->R rv w'):Enters P f vs w R:=
 .inl ⟨he,h.mono fun e w' h=>by obtain⟨rfl,h⟩:=h;exact hR w' h⟩
theorem ajH{P:Program}{f:FuncId}{T e:TypeId}{t:bi}{bt:Nat}(aD:bh t=4)(se:0<bt)(R:amm P f T e bt)(he:∀vs w,(callFunc f vs).run P w=.ok (.enter f vs) w)(ay:P.underlying T=some (.slice e))
  (hinfo:(P.info? e).map (fun i=>(i.zero.map (·.cells.size),i.size,i.bytes))=some (some 4,4,bt)):aF P f (Jd t bt):=by
 obtain⟨i0,hi0,hzz⟩:=Option.map_eq_some_iff.1 hinfo;simp only[Prod.mk.injEq] at hzz;obtain⟨hz0,hzs,hzb⟩:=hzz;obtain⟨z,hz,hzc⟩:=Option.map_eq_some_iff.1 hz0;intro as;unfold Jd;cases aC:Bm t as with
 |none=>intro y hy;cases hy
 |some q=>
  obtain⟨xs,i,vs⟩:=q;have has:=agP aC;subst has;intro y hy w X eL dP bV lk EB hold _;have hy:uk bt xs i vs=some y:=hy;unfold uk at hy;split at hy;case isFalse=>cases hy
  rename_i hc;obtain⟨hc0,hc1,sd,acX⟩:=hc;cases hy;obtain⟨k,rfl⟩:=Int.eq_ofNat_of_zero_le hc0;simp only[Int.ofNat_eq_natCast,Int.toNat_natCast] at*;have hk:k<=xs.length:=by omega
  match eL,bV with
  |[v1,v2,v3],⟨b1,q1,e1,h1,b2,q2,e2,h2,b3,dU,bE,h3,dN⟩=>
   obtain⟨gq,t1,cs,o1,r1⟩:=h1;obtain⟨z2,r2⟩:=h2;obtain⟨z3,t3,kM,o3,dE⟩:=h3;rw[aD] at o1 o3;subst gq z2 z3 dN;simp only[List.append_nil,List.nil_append] at bE e2;subst bE;subst e2;subst e1;have axM:=iW r2;subst axM;have fk:eu [Arg.av (b5.aq (aU.fresh t xs)),Arg.av (b5.aq (aU.d (.int .i64 (k:Int)))),Arg.av (b5.aq (aU.fresh t vs))] [v1,.int .i64 (k:Int),v3]=[]:=by
    cases v1<;>cases v3<;>rfl
   show Enters P f #[v1,.int .i64 (k:Int),v3] w _;have uP:cs.length=xs.length*4:=o1.1;have c9:kM.length=vs.length*4:=o3.1;have h63:xs.length+vs.length<=9223372036854775807:=by simp only[maxLen] at acX;omega
   have hroom:(xs.length+vs.length)*bt<=140737488355328:=sd;by_cases hm:vs.length=0
   ·-- nothing aed lay in
    have hvs:vs=[]:=fO hm;subst hvs;have at3:kM=[]:=fO (by simpa using c9)
    subst at3;have fin:=
     Bl aD (w:=w) (w':=w) hk r1 dE ⟨t1,by simp only[List.append_nil,List.take_append_drop];exact o1⟩ (Fr.refl _ _) hold
      (fun b hb=>by
       have:b∈(b0 v1).toList++(b0 v3).toList:=bo.2 (.inl (by rw[hb];simp))
       refine⟨?_,.inl this⟩;rcases s4 (pD aD) o1 with⟨h,_,_⟩|⟨g,c,cur,h,hg,_⟩
       ·rw[h] at hb;cases hb
       ·rw[h] at hb;cases hb;exact(Array.getElem?_eq_some_iff.1 hg).1) EB _ _ fk
    have mX:∃xa vc,v3=.slice xa 0 vc:=by
     rcases s4 (pD aD) o3 with⟨h,_,_⟩|⟨g,c,cur,h,_⟩
     ·exact⟨_,_,h⟩
     ·exact⟨_,_,h⟩
    obtain⟨xa,vc,mX⟩:=mX;rcases s4 (pD aD) o1 with⟨h,hn,_⟩|⟨g,c,cur,h,hg,hnc,hcm,_⟩
    ·have qu:k=0:=by omega
     subst qu;subst h mX;exact sL (he _ _) (R.arv xa vc w) (fun w' oZ=>by rw[oZ];exact fin)
    ·subst h mX;exact sL (he _ _) (R.aru g xs.length c k xa vc w hk hnc (by simp only[maxLen] at hcm;omega)) (fun w' oZ=>by rw[oZ];exact fin)
   ·have uO:0<vs.length:=by omega
    have XY:=r1.one;have uh:=dE.one;rcases s4 (pD aD) o3 with⟨_,h,_⟩|⟨vb,vc,vcur,mX,Ex,aCM,aCL,Dz,rH⟩
    ·exact absurd h hm
    have Dz:vcur.size=vc*4:=Dz;have rH:vcur.toList.take (vs.length*4)=kM:=rH;have aC5:vb<w.heap.size:=(Array.getElem?_eq_some_iff.1 Ex).1;have src:Src w 4 v3 vs.length kM:=⟨c9,uh,.inr (.inl ⟨⟨vb,0,none⟩,vc,mX,fun j u hj=>by
     rw[<-rH,List.getElem?_take] at hj;split at hj
     ·rw[Addr.add_lit,Nat.zero_add];simpa[World.cell?,Ex] using hj
     ·cases hj⟩)⟩
    have append:k=xs.length->∃v' W,(∀ty,(Builtin.append_ #[T,T] ty #[v1,v3]).run P w=.ok v' W)/\∀w',w'=W->
      ∃eO eN rv,Fr ((b0 v1).toList++(b0 v3).toList) w w'/\jH w' (fun b=>X b\/b∈eO++eN) (eu [Arg.av (b5.aq (aU.fresh t xs)),Arg.av (b5.aq (aU.d (.int .i64 (k:Int)))),Arg.av (b5.aq (aU.fresh t vs))] [v1,.int .i64 (k:Int),v3]) [] eO/\
       lT w' (fun b=>X b\/b∈eO++eN) [.aq (.fresh t (xs.take k++vs++xs.drop k))] rv eN/\
       v'=oH rv/\(eO++eN).Nodup/\∀b,b∈eO++eN->¬X b/\(b∈(b0 v1).toList++(b0 v3).toList\/w.heap.size<=b):=by
     intro uR;obtain⟨v',W,hr,own,gb,hb⟩:=Fc (u:=t.ki) w T T 0 e (fun h=>by rw[pD aD] at h;cases h) i0 z 4 bt ay (.inl ⟨e,ay⟩) hi0 hz hzs hzb hzc (by first|exact se|decide) v1 xs.length cs ⟨t1,o1⟩ v3 vs.length kM src acX hroom
     refine⟨v',W,fun ty=>hr,fun w' oZ=>?_⟩
     subst oZ;refine Bl aD (w:=w) (w':=w') hk r1 dE ?_ ⟨gb.os,gb.tape,gb.output,gb.size,fun b hb1 hb2=>gb.block b hb1 fun h=>hb2 ?_⟩ hold (fun b eA=>⟨(hb b eA).1,?_⟩) EB _ _ fk
     ·obtain⟨cW,own⟩:=own;refine⟨cW,?_⟩;rw[uR,List.take_of_length_le (by omega),List.drop_eq_nil_of_le (by omega),List.append_nil]
      exact own
     ·refine bo.2 (.inl ?_);rcases s4 (pD aD) o1 with⟨an,_,_⟩|⟨g,c,cur,an,_⟩
      ·rw[an] at h;cases h
      ·rw[an] at h ⊢;cases h;simp[b0]
     ·rcases(hb b eA).2 with h|h
      ·exact .inl (bo.2 (.inl (by rw[h];simp)))
      ·exact .inr h
    rcases s4 (pD aD) o1 with⟨h,hn,aCQ⟩|⟨g,c,cur,h,hg,hnc,hcm,k9,mE⟩
    ·have qu:k=0:=by omega
     obtain⟨v',W,hr,fin⟩:=append (by omega)
     subst qu;subst h mX;exact sL (he _ _) (R.auF (some ⟨vb,0,none⟩) vs.length vc w uO v' W hr) fin
    ·have hc63:c<=9223372036854775807:=by simp only[maxLen] at hcm;omega
     have k9:cur.size=c*4:=k9;have mE:cur.toList.take (xs.length*4)=cs:=mE;have ayL:g<w.heap.size:=(Array.getElem?_eq_some_iff.1 hg).1;by_cases uR:k=xs.length
     ·obtain⟨v',W,hr,fin⟩:=append uR;subst h mX;subst uR;exact sL (he _ _) (R.auE g xs.length c (some ⟨vb,0,none⟩) vs.length vc w hnc hc63 uO v' W hr) fin
     ·have hlt:k<xs.length:=by omega
      have hne:vb≠g:=by
       intro bV;subst bV;rw[h,mX] at lk;simp[b0] at lk
      have eG:g∈(b0 v1).toList++(b0 v3).toList:=by rw[h];simp[b0]
      have hlen:(cs.take (k*4)++kM++cs.drop (k*4)).length=(xs.length+vs.length)*4:=by simp only[dx,List.length_take,List.length_drop,uP,c9];omega
      by_cases hr:xs.length+vs.length<=c
      ·have key:=R.shift g xs.length c k vb vs.length vc cur vcur _ _ w hlt uO hr hc63 hne hg Ex k9 (by rw[Dz];omega) (by rw[mE];exact XY) (by rw[rH];exact uh)
       rw[mE,rH] at key;subst h mX;refine sL (he _ _) key fun w' oZ=>?_
       subst oZ;refine Bl aD (w:=w) hk r1 dE ⟨_,hlen,.inr ⟨g,c,_,(0,0),rfl,Up aD,setRow_heap w.drew g cur _ _ (0,0) hg,hr,hcm,?_,?_⟩⟩ ⟨rfl,rfl,rfl,by simp,fun b hb1 hb2=>setRow_other w.drew g b _ (fun h=>hb2 (h▸eG))⟩ hold (fun b hb=>?_) EB _ _ fk
       ·simp only[bZ,List.size_toArray,dx,List.length_drop,List.length_take,Array.length_toList,k9,uP,c9];omega
       ·show List.take _ (bZ (bZ cur.toList ((k+vs.length)*4) (cs.drop (k*4))) (k*4) kM)=_;have l9:xs.length*4+vs.length*4<=cur.toList.length:=by have q:=Array.length_toList (xs:=cur);omega
        exact aiK cur.toList cs kM xs.length vs.length k mE hk c9 l9
       ·cases hb;exact⟨by simpa using ayL,.inl eG⟩
      ·obtain⟨G,ROW,W,ay9,ay8,ay7,ay6,hW1,aDd,aDc,Np,key⟩:=R.grow g xs.length c k vb vs.length vc cur vcur _ _ w hlt uO hnc (by omega) hc63 hroom hg Ex k9 (by rw[Dz];omega) (by rw[mE];exact XY) (by rw[rH];exact uh)
       rw[mE,rH] at key;subst h mX;refine sL (he _ _) key fun w' oZ=>?_
       obtain⟨aG,aK,bP,cU⟩:=oZ;have ayZ:W.heap[w.heap.size]? =some (.cells ROW e (0,0)):=by rw[Np];simp
       have hsz:w'.heap.size=w.heap.size+1:=by rw[cU,setRow_size,Np];simp
       refine Bl aD (w:=w) hk r1 dE ⟨_,hlen,.inr ⟨w.heap.size,G,_,(0,0),rfl,Up aD,(by rw[cU];exact setRow_heap W w.heap.size ROW _ _ (0,0) ayZ),ay8,ay9,?_,?_⟩⟩ ⟨aG,aK,bP,by omega,fun b hb1 hb2=>?_⟩ hold (fun b hb=>?_) EB _ _ fk
       ·simp only[bZ,List.size_toArray,dx,List.length_drop,List.length_take,Array.length_toList,ay7,uP,c9];omega
       ·show List.take _ (bZ (bZ ROW.toList (k*4) kM) ((k+vs.length)*4) (cs.drop (k*4)))=_;have l9:xs.length*4+vs.length*4<=ROW.toList.length:=by have q:=Array.length_toList (xs:=ROW);omega
        refine ahr ROW.toList cs kM xs.length vs.length k ?_ hk uP c9 l9;rw[ay6,<-mE,List.take_take,Nat.min_eq_left (by omega)]
       ·rw[cU,setRow_other W w.heap.size b _ (by omega),Np]
        have hne:b≠w.heap.size:=Nat.ne_of_lt hb1;rw[Array.getElem?_push,if_neg hne]
       ·have hb:some w.heap.size=some b:=hb;cases hb;exact⟨by rw[hsz];exact Nat.lt_succ_self _,.inr (Nat.le_refl _)⟩
def D8:Value->Value->Bool
 |.int k n,.int k' m=>decide (k=k')&&decide (n=m)
 |.bool a,.bool b=>a==b
 |.string a,.string b=>a.data.toList.isEmpty&&b.data.toList.isEmpty
 |.pointer none,.pointer none=>true
 |.slice none 0 0,.slice none 0 0=>true
 |.map none,.map none=>true
 |.nilFunc,.nilFunc=>true
 |.nilIface,.nilIface=>true
 |_,_=>false
theorem UH{u v:Value}(h:D8 u v=true):u=v:=by
 unfold D8 at h;split at h
 ·simp only[bz,dW] at h;rw[h.1,h.2]
 ·rw[eq_of_beq h]
 ·rename_i a b;simp only[bz,List.isEmpty_iff] at h;obtain⟨⟨a⟩⟩:=a;obtain⟨⟨b⟩⟩:=b;obtain⟨rfl,rfl⟩:=h;rfl
 ·rfl
 ·rfl
 ·rfl
 ·rfl
 ·rfl
 ·cases h
def w0:List Value->List Value->Bool
 |[],[]=>true
 |a::as,b::bs=>D8 a b&&w0 as bs
 |_,_=>false
theorem HS:∀{us vs:List Value},w0 us vs=true->us=vs
 |[],[],_=>rfl
 |_::_,_::_,h=>by
  simp only[w0,bz] at h;rw[UH h.1,HS h.2]
 |[],_::_,h=>by cases h
 |_::_,[],h=>by cases h
section
variable {P:Program}{T:TypeId}
def nN(P:Program)(T:TypeId)(z:Value):Bool:=match P.info? T with
 |some i=>i.size.beq 1&&(match i.zero with|some v=>D8 v z|none=>false)
 |none=>false
theorem pI{z:Value}(h:nN P T z=true):(P.info? T).map (fun i=>(i.size,i.zero))=some (1,some z):=by
 unfold nN at h;cases hi:P.info? T with
 |none=>rw[hi] at h;cases h
 |some i=>
  rw[hi] at h;simp only[bz] at h;have h1:=ce h.1;cases hz:i.zero with
  |none=>rw[hz] at h;cases h.2
  |some v=>rw[hz] at h;simp only[Option.map_some,h1,hz,UH h.2]
def mb(P:Program)(T:TypeId):cu->Bool
 |.int k=>nN P T (.int k 0)&&(match P.underlying T with|some (.int k')=>decide (k'=k)|_=>false)
 |.bool=>nN P T (.bool false)&&(match P.underlying T with|some .bool=>true|_=>false)
 |.str=>nN P T (.string ⟨#[]⟩)&&(match P.underlying T with|some .string=>true|_=>false)
 |.ptr=>nN P T (.pointer none)&&(match P.underlying T with|some (.pointer _)=>true|_=>false)
 |.func=>nN P T .nilFunc&&(match P.underlying T with|some (.func _ _ _)=>true|_=>false)
 |.iface=>nN P T .nilIface&&(match P.underlying T with|some (.interface _)=>true|_=>false)
 |_=>false
theorem kW{ti:cu}(h:mb P T ti=true):ti.ok P T:=by
 unfold mb at h;split at h;all_goals first|cases h;done|skip
 all_goals
  simp only[bz] at h;obtain⟨h1,h2⟩:=h;split at h2;all_goals first|cases h2;done|skip
  rename_i hu
 ·simp only[dW] at h2;subst h2;exact⟨hu,fun _ h=>by(cases h),fun _ _ h=>by(cases h),pI h1⟩
 ·exact⟨hu,fun _ h=>by(cases h),fun _ _ h=>by(cases h),pI h1⟩
 ·exact⟨hu,fun _ h=>by(cases h),fun _ _ h=>by(cases h),pI h1⟩
 ·exact⟨_,hu,fun _ h=>by(cases h),fun _ _ h=>by(cases h),pI h1⟩
 ·exact⟨_,_,_,hu,fun _ h=>by(cases h),fun _ _ h=>by(cases h),pI h1⟩
 ·exact⟨_,hu,fun _ h=>by(cases h),fun _ _ h=>by(cases h),pI h1⟩
def u4(P:Program):Nat->List (TypeId×Nat×Bool)->List aU->Bool
 |_,[],[]=>true
 |k,(t,D,b)::b4,.d (.int i _)::z=>D.beq k&&!b&&mb P t (.int i)&&u4 P (k+1) b4 z
 |k,(t,D,b)::b4,.d (.bool _)::z=>D.beq k&&!b&&mb P t .bool&&u4 P (k+1) b4 z
 |k,(t,D,b)::b4,.d (.str _)::z=>D.beq k&&!b&&mb P t .str&&u4 P (k+1) b4 z
 |_,_,_=>false
theorem aqa:∀{b4:List (TypeId×Nat×Bool)} {k:Nat} {z:List aU},u4 P k b4 z=true->nR P k b4 z:=by
 intro b4;induction b4 with
 |nil=>intro k z h;cases z<;>first|trivial|cases h
 |cons f b4 ih=>
  obtain⟨t,D,b⟩:=f;intro k z h;cases z with
  |nil=>cases h
  |cons l z=>
   cases l<;>try(cases h;done)
   rename_i d;cases d<;>try(cases h;done)
   all_goals
    simp only[u4,bz,Bool.not_eq_true'] at h;exact⟨ce h.1.1.1,h.1.1.2,kW h.1.2,ih h.2⟩
def uC(P:Program)(T:TypeId):cu->Bool
 |.none=>true
 |.slice e t bytes=>nN P T (.slice none 0 0)&&(match P.underlying T with|some (.slice cW)=>cW.beq e|_=>false)&&(match P.info? e with
  |some i=>i.size.beq (bh t)&&i.bytes.beq bytes&&(match i.zero with|some z=>z.cells.size.beq (bh t)|none=>false)
  |none=>false)&&(!t.ki||e.beq nd)
 |.struct b4 n z eq=>match P.underlying T,P.info? T with
  |some (.struct fields),some i=>decide (fields.toList.mapM (fun f=>(P.info? f.type).map fun i=>(f.offset,i.size))=some b4)&&b4.all (fun p=>!p.2.beq 0)&&i.size.beq n&&z.length.beq n&&
    (match i.zero,lM z with|some (.agg gF),some vs=>w0 vs gF.toList|_,_=>false)&&
    (!eq||(!P.stoodInHeld T&&!P.eqGuardType P.depth T&&!fields.toList.isEmpty&&u4 P 0 (fields.toList.map fun f=>(f.type,f.offset,f.name== "_")) z))
  |_,_=>false
 |.map k e t=>nN P T (.map none)&&(match P.underlying T with|some (.map k' cW)=>k'.beq k&&cW.beq e|_=>false)&&(match P.underlying k with|some .string=>true|_=>false)&&
   (match t with|.i64=>mb P e (.int .i64)|.bool=>mb P e .bool|_=>false)
 |.arr e t n=>(match P.underlying T with|some (.array h7 cW)=>h7.beq n&&cW.beq e|_=>false)&&(match P.info? T with
  |some i=>i.size.beq n&&(match i.zero,uz t with|some (.agg gF),some z=>(match lM (List.replicate n z) with|some vs=>w0 vs gF.toList|none=>false)|_,_=>false)
  |none=>false)&&(match t with|.i64=>mb P e (.int .i64)|.u32=>mb P e (.int .u32)|.bool=>mb P e .bool|.str=>mb P e .str|_=>false)
 |ti=>mb P T ti
theorem ao0{ti:cu}(h:uC P T ti=true):ti.ok P T:=by
 cases ti with
 |none=>trivial
 |int k=>exact kW (ti:=.int k) h
 |bool=>exact kW (ti:=.bool) h
 |str=>exact kW (ti:=.str) h
 |ptr=>exact kW (ti:=.ptr) h
 |func=>exact kW (ti:=.func) h
 |iface=>exact kW (ti:=.iface) h
 |slice e t bytes=>
  simp only[uC,bz] at h;obtain⟨⟨⟨h1,h2⟩,h3⟩,h0⟩:=h;split at h2<;>try(cases h2;done)
  rename_i cW hu;cases ce h2;split at h3<;>try(cases h3;done)
  rename_i i hi;simp only[bz] at h3;obtain⟨⟨g1,g2⟩,g3⟩:=h3;split at g3<;>try(cases g3;done)
  rename_i z hz;exact⟨⟨hu,fun _ h=>by(cases h),fun _ _ h=>by(cases h),pI h1⟩,z,by simp only[hi,Option.map_some,ce g1,ce g2,hz],ce g3,fun h=>by rw[h] at h0;exact ce h0⟩
 |struct b4 n z eq=>
  simp only[uC] at h;split at h<;>try(cases h;done)
  rename_i fields i hu hi;simp only[bz,dW] at h;obtain⟨⟨⟨⟨⟨h1,h2⟩,h3⟩,aD⟩,bn⟩,cl⟩:=h;split at bn<;>try(cases bn;done)
  rename_i gF vs hz oX;refine⟨fields,hu,⟨h1,fun p hp e=>?_⟩,⟨gF,by simp only[hi,Option.map_some,ce h3,hz],by rw[oX,HS bn],ce aD⟩,fun he=>?_⟩
  ·have:=List.all_eq_true.1 h2 p hp;rw[e] at this;cases this
  ·subst he;simp only[bu,Bool.false_or,bz,Bool.not_eq_true'] at cl;obtain⟨⟨⟨aG,aK⟩,bP⟩,cU⟩:=cl;exact ajU hu aG aK rfl (fun e=>by rw[e] at bP;cases bP) (aqa cU)
 |map k e t=>
  simp only[uC,bz] at h;obtain⟨⟨⟨h1,h2⟩,h3⟩,aD⟩:=h;split at h2<;>try(cases h2;done)
  rename_i k' cW hu;simp only[bz] at h2;cases ce h2.1;cases ce h2.2;split at h3<;>try(cases h3;done)
  rename_i hk;refine⟨⟨hu,fun _ h=>by(cases h),fun _ _ h=>by(cases h),pI h1⟩,hk,?_⟩
  split at aD<;>try(cases aD;done)
  ·exact kW (ti:=.int .i64) aD
  ·exact kW (ti:=.bool) aD
 |arr e t n=>
  simp only[uC,bz] at h;obtain⟨⟨h1,h2⟩,h3⟩:=h;split at h1<;>try(cases h1;done)
  rename_i h7 cW hu;simp only[bz] at h1;cases ce h1.1;cases ce h1.2;split at h2<;>try(cases h2;done)
  rename_i i hi;simp only[bz] at h2;obtain⟨g1,g2⟩:=h2;split at g2<;>try(cases g2;done)
  rename_i gF z hz Ei;split at g2<;>try(cases g2;done)
  rename_i vs hvs;refine⟨hu,⟨gF,z,by simp only[hi,Option.map_some,ce g1,hz],Ei,by rw[hvs,HS g2]⟩,?_⟩
  split at h3<;>try(cases h3;done)
  ·exact kW (ti:=.int .i64) h3
  ·exact kW (ti:=.int .u32) h3
  ·exact kW (ti:=.bool) h3
  ·exact kW (ti:=.str) h3
def K3(P:Program):List (Nat×cu)->Bool
 |[]=>true
 |(k,v)::r=>uC P k v&&K3 P r
theorem S2:∀{l:List (Nat×cu)},K3 P l=true->KS P l
 |[],_=>trivial
 |(_,_)::_,h=>by
  simp only[K3,bz] at h;exact⟨ao0 h.1,S2 h.2⟩
end
abbrev a8:=List (Nat×aI)
def C4:a8->Nat->Option aI
 |[],_=>none
 |(k,S)::r,n=>bif k.beq n then some S else C4 r n
def DX(P:Program):a8->Prop
 |[]=>True
 |(k,S)::r=>aF P k S/\DX P r
theorem RB{P:Program}:∀{L:a8},DX P L->∀g S,C4 L g=some S->aF P g S
 |[],_,_,_,h=>by cases h
 |(k,S)::r,ee,g,cA,h=>by
  simp only[C4] at h;cases hb:k.beq g with
  |true=>
   rw[hb] at h;cases h;rw[<-ce hb];exact ee.1
  |false=>rw[hb] at h;exact RB ee.2 g cA h
structure Env where
 tt:TypeId->cu
 mj:List (Nat×Nat)
 ob:List Nat
 op:List Nat
 kR:List Nat:=[]
 bs:List Nat:=[]
 gt:List (Nat×((t:bi)×List (den t))):=[]
structure Xy(P:Program)(E:Env):Prop where
 tt:∀T,(E.tt T).ok P T
 Oa:P.follows .mixedOrders=true
 mj:∀p,p∈E.mj->BT P p.1 p.2
 op:∀g,g∈E.op->CW P g
 kR:∀g,g∈E.kR->CY P g
 bs:∀g,g∈E.bs->Dg P g
 gt:∀p,p∈E.gt->DQ p.1 p.2.1 p.2.2
def C5:List (Nat×Nat)->Nat->Option Nat
 |[],_=>none
 |(k,v)::r,n=>bif k.beq n then some v else C5 r n
theorem Rf:∀{l:List (Nat×Nat)} {n v:Nat},C5 l n=some v->(n,v)∈l
 |[],_,_,h=>by cases h
 |(k,u)::r,n,v,h=>by
  simp only[C5] at h;cases hb:k.beq n with
  |true=>rw[hb] at h;cases h;rw[<-ce hb];exact cj
  |false=>rw[hb] at h;exact ci _ (Rf h)
theorem Aa:∀{l:List Nat} {n:Nat},gB n l=true->n∈l
 |m::r,n,h=>by
  simp only[gB,Bool.or_eq_true] at h;rcases h with h|h
  ·rw[ce h];exact cj
  ·exact ci _ (Aa h)
theorem alR{g:Nat}{zs:List Int}(hg:g∈lm)(h:∀w,n7 w->oP w g .u32 zs):DQ g .u32 zs:=by
 refine⟨hg,fun w av hw=>?_⟩
 obtain⟨T,fz,h⟩:=h w hw;have e:∀zs:List Int,flat .u32 zs=zs.map fun z=>bk.int .u32 z:=by
  intro zs;induction zs with
  |nil=>rfl
  |cons z zs ih=>exact congrArg (bk.int .u32 z:: ·) ih
 refine⟨T,fz,_,h,by rw[e];simp,fun j h1 h2=>?_⟩
 simp only[e,List.getElem_map];exact .int _ _
def aZ(E:Env)(L:a8):Ctx:={tt:=E.tt,b4:=C4 L,mj:=C5 E.mj,ob:=fun n=>gB n E.ob,op:=fun n=>gB n E.op,kR:=fun n=>gB n E.kR,bs:=fun n=>gB n E.bs,gt:=look E.gt}
theorem aol{P:Program}{E:Env}(h:Xy P E){L:a8}(ee:DX P L):aT P (aZ E L):=
 ⟨⟨h.tt,fun g t xs e=>h.gt (g,⟨t,xs⟩) (alC e)⟩,RB ee,h.Oa,fun g cO e=>h.mj (g,cO) (Rf e),fun g e=>h.op g (Aa e),fun g e=>h.kR g (Aa e),fun g e=>h.bs g (Aa e)⟩
theorem a7{P:Program}{c:Code}{q p:Nat}{f:iw}{r:List (Nat×iw)}(h:aV P (ap c q p) f)(t:l3 P c q r):l3 P c q ((p,f)::r):=⟨h,t⟩
def _b(fn:Func)(fL:List Nat):Bool:=fn.body.isSome&&!(fn.name== "runtime.NumGoroutine")&&gg (keys (gA (codeOf fn) 1))&&fv fL (cJ (codeOf fn))
noncomputable def aL(E:Env)(fn:Func)(ml lv:Shape)(fL:List Nat)(f:ml.J->Option lv.J):aI:=pK E.tt fn.ntmps ml lv fn.results.toList fL f
def XT(tt:TypeId->cu)(fn:Func)(fL:List Nat)(st:ao):Bool:=match oD tt st fn.results.toList,ov st fL with
 |some r,some pk=>gg (keys (pk.2++r.2))
 |_,_=>false
theorem aM{P:Program}{E:Env}{L:a8}(H:aT P (aZ E L)){g:FuncId}{fn:Func}{ml lv:Shape}{fL:List Nat}{c4:List (Nat×iw)}{f:ml.J->Option lv.J}(n6:P.funcs[g]? =some fn)(hb:_b fn fL=true)
  (eV:l3 P (codeOf fn) 1 c4) (rI:∀y,XT E.tt fn fL (lv.st y)=true) (hf:∀a,f a=KR (hI (aZ E L) c4) (codeOf fn) ml lv a):aF P g (aL E fn ml lv fL f):=by
 simp only[_b,bz] at hb;obtain⟨⟨⟨h1,h2⟩,h3⟩,aD⟩:=hb;refine ap4 (C:=aZ E L) H n6 ?_ ?_ rfl h3 eV aD (fun y=>?_) hf
 ·obtain⟨c,hc⟩:=Option.isSome_iff_exists.1 h1;simp[codeOf,hc]
 ·simpa using h2
 ·have:=rI y;unfold XT at this;split at this
  ·rename_i r pk e1 e2;exact⟨r,pk,e1,e2,this⟩
  ·cases this
theorem bT{P:Program}{C:Ctx}(H:aT P C){c:Code}{q p:Nat}{be:Shape}{os:List aR}{c4:List (Nat×iw)}{g:be.J->Option (Sum be.J (aH os))}(hl:(VL (ap c q p)&&gg (keys (gA (dk (ap c q p)) (2*p))))=true)
  (eV:l3 P (dk (ap c q p)) (2*p) c4) (hg:∀y,g y=tx (hI C c4) (dk (ap c q p)) p be os y):aV P (ap c q p) (aX be os (bA g)):=by
 simp only[bz] at hl;exact anT H hl.1 hl.2 eV (fun y=>ahU hg y)
def Vg(c:Code)(p t fj:Nat)(be:Shape)(os:List aR)(gH:List Nat):Bool:=fv gH (keys (gA (nr c) (2*p)))&&gg (keys (gA (kx c) (2*p+1)))&&
 fv (keys be.c8) (fj::(cJ (nr c)++cJ (kx c)))&&hH (nr c)&&hH (kx c)&&Nat.blt fj be.nt&&ud be.nt os
theorem Pv{P:Program}{C:Ctx}(H:aT P C){cO:FuncId}(vh:wJ P cO){c:Code}{q p t fj:Nat}{be:Shape}{os:List aR}{c4:List (Nat×iw)}{aW:B->be.J->Option (Sum be.J (aH os))}{fin:be.J->Option (aH os)}
  (nb:ap c q p=.rangeFunc (.tmp t) #[fj] (nr (ap c q p)) (kx (ap c q p))) (eV:l3 P (kx (ap c q p)) (2*p+1) c4) (hb:Vg (ap c q p) p t fj be os (wQ c4)=true)
  (hr:∀x y,aW x y=JV (hI C c4) (nr (ap c q p)) (kx (ap c q p)) p fj be os x y) (xd:∀y,fin y=hZ os (.norm (be.st y))):aV P (ap c q p) (s3 cO t be os aW fin):=by
 simp only[Vg,bz] at hb;obtain⟨⟨⟨⟨⟨⟨h1,h2⟩,h3⟩,aD⟩,bn⟩,cl⟩,iB⟩:=hb;exact akN H vh nb h1 h2 eV hr xd h3 aD bn cl iB
abbrev aj(t:Nat):Nat×fy:=(t,.aq (.d (.int .i64)))
abbrev ar(t:Nat):Nat×fy:=(t,.aq (.d .bool))
abbrev am(t:Nat):Nat×fy:=(t,.aq (.d .str))
abbrev aO(t:Nat)(u:bi):Nat×fy:=(t,.aq (.d (.sl u)))
abbrev ax(t n D:Nat):Nat×fy:=(t,.aq (.ptr n D))
abbrev bd(t n:Nat):Nat×fy:=(t,.aq (.own n))
abbrev ck(t:Nat)(bg:List dI):Nat×fy:=(t,.agg bg)
abbrev ba:dI:=.d (.int .i64)
abbrev mn:dI:=.d .bool
abbrev ah:dI:=.d .str
abbrev br(u:bi):dI:=.d (.sl u)
abbrev e3(t n:Nat)(u:bi):Nat×fy:=(t,.aq (.fr n u))
abbrev bc(n:Nat)(u:bi)(t j:Nat):Nat×eT×Loc:=(n,.row u,.slot t j)
abbrev bv(n:Nat)(u:bi)(t j:Nat):Nat×eT×Loc:=(n,.row u,.cell t j)
abbrev aw(n:Nat)(bg:List dI):Nat×eT×Loc:=(n,.box bg,.same)
def ab{aE:Type}(D:Option aE)(P:aE->Prop):Prop:=∃x,D=some x/\P x
theorem ab.bind{aE ls:Type}{D:Option aE}{k:aE->Option ls}{P:aE->Prop}{Q:ls->Prop}(h:ab D P)(hk:∀x,P x->ab (k x) Q):ab (D.bind k) Q:=by
 obtain⟨x,rfl,hx⟩:=h;exact hk x hx
theorem ab.eq{aE ls:Type}{D:Option aE}{k:aE->Option ls}{x:aE}{Q:ls->Prop}(h:D=some x)(hk:ab (k x) Q):ab (D.bind k) Q:=by
 rw[h];exact hk
theorem ab.ret{aE:Type}{x:aE}{Q:aE->Prop}(h:Q x):ab (some x) Q:=⟨x,rfl,h⟩
theorem ab.ite{aE:Type}{c:Bool}{x y:Option aE}{Q:aE->Prop}(h1:c=true->ab x Q)(h2:c=false->ab y Q):ab (bif c then x else y) Q:=by
 cases c
 ·exact h2 rfl
 ·exact h1 rfl
theorem ab.mono{aE:Type}{D:Option aE}{P Q:aE->Prop}(h:ab D P)(hk:∀x,P x->Q x):ab D Q:=by
 obtain⟨x,rfl,hx⟩:=h;exact⟨x,rfl,hk x hx⟩
theorem ab.loop{J bx:Type}{f:J->Option (Sum J bx)}(I:Nat->J->Prop){Q:bx->Prop}(h:∀n y,I n y->ab (f y) (fun s=>match s with|.inl y'=>∃k,k<n/\I k y'|.inr b=>Q b)):∀n y,I n y->ab (bA f y) Q:=by
 intro n;induction n using Nat.strongRecOn with
 |_ n ih=>
  intro y hy;obtain⟨s,hs,aC⟩:=h n y hy;cases s with
  |inl y'=>
   obtain⟨k,hk,dH⟩:=aC;rw[ea hs];exact ih k hk y' dH
  |inr b=>exact⟨b,cC hs,aC⟩
theorem dS{s t:B}(h:s.length+t.length<=4611686018427387904):cc s t=some (s++t):=by
 unfold cc;rw[if_neg];show ¬(((s.length+t.length:Nat):Int)>9223372036854775807);omega
theorem wo{k:IntKind}{x y:Int}(hk:k=.i64)(h0:0<=x)(h1:x<=4611686018427387904)(hy:0<y):l5 k x y=some (x/y):=by
 subst hk;unfold l5;rw[if_neg (by omega),Int.tdiv_eq_ediv_of_nonneg h0]
 have h2:0<=x/y:=Int.ediv_nonneg h0 (by omega)
 have h3:x/y<=x:=Int.ediv_le_self y h0;rw[c5 (by omega) (by omega)]
theorem oI{x y:Int}(h0:0<=x)(hy:0<y):ja x y=some (x%y):=by
 unfold ja;rw[if_neg (by omega),Int.tmod_eq_emod_of_nonneg h0]
theorem aoS{x y:Int}(hx:0<=x)(qn:x<4611686018427387904)(hy:0<=y)(ez:y<4611686018427387904):0<=dB .i64 x y:=by
 unfold dB;obtain⟨m,rfl⟩:=Int.eq_ofNat_of_zero_le hx;obtain⟨n,rfl⟩:=Int.eq_ofNat_of_zero_le hy;have key:(BitVec.ofInt IntKind.i64.bits (m:Int) ^^^ BitVec.ofInt IntKind.i64.bits (n:Int)).toNat<4611686018427387904:=by
  rw[BitVec.toNat_xor];have h1:(BitVec.ofInt IntKind.i64.bits (m:Int)).toNat=m:=by
   rw[BitVec.ofInt_natCast,BitVec.toNat_ofNat];exact Nat.mod_eq_of_lt (by show m<2^64;omega)
  have h2:(BitVec.ofInt IntKind.i64.bits (n:Int)).toNat=n:=by
   rw[BitVec.ofInt_natCast,BitVec.toNat_ofNat];exact Nat.mod_eq_of_lt (by show n<2^64;omega)
  rw[h1,h2];exact Nat.xor_lt_two_pow (n:=62) (by omega) (by omega)
 rw[c5 (by omega) (by omega)]
 omega
theorem nH{aE:Type}{xs:List aE}{i:Int}(h0:0<=i)(h1:i<(xs.length:Int)):∃x,aS xs i=some x/\x∈xs:=by
 obtain⟨n,rfl⟩:=Int.eq_ofNat_of_zero_le h0;have hn:n<xs.length:=by omega
 exact⟨xs[n],by rw[cd];exact d_ hn,List.getElem_mem hn⟩
structure dj(b:List Int)(p:Int)(m:Nat):Prop where
 len:b.length<=2000
 byte:∀x,x∈b->0<=x/\x<=255
 df:0<=p
 hi:p+m<=1099511627776
theorem dj.less{b:List Int}{p:Int}{m k:Nat}(h:dj b p m)(hk:k<=m):dj b p k:=⟨h.len,h.byte,h.df,by have:=h.hi;omega⟩
end Go.Jk
