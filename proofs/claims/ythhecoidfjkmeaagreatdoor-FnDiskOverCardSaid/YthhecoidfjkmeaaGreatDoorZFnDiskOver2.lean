/- FnDiskOver: the last complete root is recovered. (part 3 of 7: JkIter3, JkWalk5, JkIns0, JkPu0, JkEqS, JkHand3, JkHand4, JkChecks, JkChecks2, JkIns3, JkDel, JkTight, JkPu1) Conditions: none beyond the statement. -/
import Derived.Test.YthhecoidfjkmeaaGreatDoorZFnDiskOver1
import Derived.Laws.CopyRow
import Derived.Lib.AppendZerosOnto
import Derived.Lib.Overlaps
import Derived.Laws.Externs
import Derived.Laws.StructEq
import Derived.Below
import Derived.Lib.IndexAny
set_option linter.unusedVariables false
set_option linter.unusedSimpArgs false
namespace Go.Jk
section
variable {P:Program}{C:im}{b1 b2 b3 l k:Nat}{p:ByteArray}{dw gu:TypeId}{c:UInt8}{r eY:B}{M:Array Value}{W:World}
theorem wU{a b:List Nat}(h:fs a b=true){t:Nat}(ay:t∈a):t∉b:=fun an=>by have:=sZ ay an;rw[h] at this;cases this
theorem wrap_small{n:Int}(h:0<=n)(h2:n<=4611686018427387905):IntKind.i64.wrap n=n:=by
 have e1:IntKind.i64.bits=64:=rfl;have e2:IntKind.i64.signed=true:=rfl;unfold IntKind.wrap;simp only[e1,e2,Bool.true_and,dY];have bz:(2^64:Int)=18446744073709551616:=by decide
 have dn:(2^(64-1):Int)=9223372036854775808:=by decide
 rw[bz,dn];have:n%18446744073709551616=n:=Int.emod_eq_of_lt h (by omega)
 rw[this];rw[if_neg (by omega)]
theorem anY(H:aT P C.toCtx){cN:FuncId}{fn:Func}{k:Nat}{A r5 c6 r7 r9:Code}{o0 o1 o2 o3 q0 q1 q2:Oper}{pA p5 p6 p7 p9 t7 t8 a1 a2 t41 t42 u1 u2:Nat}{ty Ee:Array TypeId}
  (T:amj P C cN fn k A r5 c6 r7 r9 o0 o1 o2 o3 q0 q1 q2 pA p5 p6 p7 p9 t7 t8 a1 a2 t41 t42 u1 u2 ty Ee) (arL:fs [h'] (cJ A++(cJ r5++(cJ c6++(cJ r7++cJ r9))))=true) (aCO:t7≠t8/\t7≠0/\t8≠0/\t41≠t7/\t41≠0):wQ P cN:=by
 refine⟨T.ade,?_⟩;intro l b1 b2 b3 p s c dw eT gu W fq ks hp hlen jt ME js h1 h2 h3 sG aeB aev aeu round ac6;obtain⟨i8,i10,t_⟩:=T.body;have yz:=T.yz;simp only[bC] at yz;obtain⟨axN,axR,axQ,axP,axO⟩:=yz;have four:∀{t:Nat},t<4->t∈[0,1,2,3]:=fun {t} h=>by
  have:t=0\/t=1\/t=2\/t=3:=by omega
  rcases this with rfl|rfl|rfl|rfl<;>simp
 have rY:∀t,t<4->t∉cJ A/\t∉cJ r5/\t∉cJ c6/\t∉cJ r7/\t∉cJ r9:=fun t ay=>by
  have:=wU T.wr (four ay);simpa only[bp,not_or] using this
 have rW:h'∉cJ A/\h'∉cJ r5/\h'∉cJ c6/\h'∉cJ r7/\h'∉cJ r9:=by
  have:=wU arL (List.mem_singleton.2 rfl);simpa only[bp,not_or] using this
 have CZ:∀{r eY:B} {M:Array Value} {W:World} {E_:List Nat} {au:ao} {c_:Act} {w':World},jP b1 b2 b3 p dw gu l k r M W->(∀t,t<4->t∉E_)->h'∉E_->eU W [b2] (fun _=>False) [] M E_ au c_ w'->(fF k []).ex au=some (ly k c eY)->
   c_.defers=[]/\jP b1 b2 b3 p dw gu l k eY c_.tmps w'/\Fr [b2] W w':=by
  rintro r eY M W E_ au c_ w' I aa hm ⟨a',eb,dp,F,ef,bx,fA,⟨ayM,hq⟩,S,kept⟩ hex;have ay9:=hq hm;subst ay9;obtain⟨iN,iB,_⟩:=Shape.gM S hex;have jA:=az.B5 bx I.lz iB;exact⟨ayM,I.of jt js jA (fun t ay=>kept t (aa t ay)) rfl,jA.frame⟩
 refine callsIn_of_wp_marks T.ZS t_ trivial ?_ rfl;obtain⟨e9,ul⟩:∃e9,(#[.func (.yield l) #[] #[]]++#[.pointer (some ⟨b1,0,none⟩),.pointer (some ⟨b2,0,none⟩),.pointer (some ⟨b3,0,none⟩)]++
   Array.replicate (fn.ntmps-(#[Value.func (.yield l) #[] #[]]++#[Value.pointer (some ⟨b1,0,none⟩),Value.pointer (some ⟨b2,0,none⟩),Value.pointer (some ⟨b3,0,none⟩)]:Array Value).size) undef:Array Value)=e9:=⟨_,rfl⟩
 rw[ul];have cY:=T.cY;have aeH:jP b1 b2 b3 p dw gu l k s.data.toList e9 W:=by
  refine⟨?_,?_,?_,?_,?_,h1,⟨s,eT,h2,rfl⟩,h3,aev _ _ ac6⟩
  ·rw[<-ul,T.nt];simp;omega
  ·rw[<-ul];simp[Array.getD_eq_getD_getElem?,Array.getElem?_append]
  ·rw[<-ul];simp[Array.getD_eq_getD_getElem?,Array.getElem?_append]
  ·rw[<-ul];simp[Array.getD_eq_getD_getElem?,Array.getElem?_append]
  ·rw[<-ul];simp[Array.getD_eq_getD_getElem?,Array.getElem?_append]
 obtain⟨R,hR⟩:∃R:Ending->World->Prop,R=fun e dr=>(∃v,e=.returned v)/\(fq [] dr\/ks dr):=⟨_,rfl⟩
 rw[<-hR];have fin:∀(M:Array Value) (dr:World),(fq [] dr\/ks dr)->LeavesInM (e6 none) 0 P fn M R [] .returning dr:=fun M dr h=>by
  refine⟨.tuple #[],Pr (outs:=[]) (by rw[T.fH]) (rv:=[]) (by simp),?_⟩
  rw[hR];exact⟨⟨_,rfl⟩,h⟩
 refine wpIn_seq (j7 (rn:=none) H A pA (.inr axN) T.k9.1 W [b2] _ (nY k c s.data.toList) _ e9 W [] (DF k) _ (T.en c s.data.toList) (aeH.jQ jt js hp) ?_);intro aBy aBL aBO aDr M_ acO;cases aBy with
 |exit id st=>cases M_
 |ret st=>cases M_
 |norm aC2=>
 cases aBL<;>try exact acO.elim
 obtain⟨Ok,aB2,aB9⟩:=CZ aeH (fun t ay=>(rY t ay).1) rW.1 acO M_
 have aBY:=sG _ _ _ ac6 aB9;obtain⟨axx,azy⟩:=aBO;have Ok:azy=[]:=Ok;subst Ok;have last:∀{r:B} {M:Array Value} {W:World},jP b1 b2 b3 p dw gu l k r M W->fq [r] W->gJ none P (.region i10 #[q0,q1,q2] false) (bodyPostM (e6 none) 0 P fn R) ⟨M,[]⟩ W:=by
  intro r M W I hj;refine wpIn_region ?_
  rw[show List.range (#[q0,q1,q2]:Array Oper).size=[0,1,2] from rfl]
  have S:=(I.jQ jt js hp).nC (t:=0) (v:=ch (.dd (.func (.yield l) #[] #[]))) (show M.getD 0 undef=_ from I.dS)
  have g4:q0.guard=none:=T.aY.2.2.2.2.1;have g5:q1.guard=none:=T.aY.2.2.2.2.2.1;have g6:q2.guard=none:=T.aY.2.2.2.2.2.2;simp only[wpOpsIn,List.getElem?_toArray,List.getElem?_cons_zero,List.getElem?_cons_succ,Region.wanted,g4,g5,g6,if_true];refine UK H (T.E5 c r _) S ?_
  intro ca w' jd a_ NZ NY xY kept cA;have OB:jP b1 b2 b3 p dw gu l k r ca w':=I.of jt js cA (fun t ay=>kept t (wU T.aec (four ay))) rfl
  have aB1:=sG _ _ _ hj cA.frame;obtain⟨s2,adj,h2',rZ⟩:=OB.h2;refine RB T.d5 NZ NY (round r [] w' jd aB1 (Array.getElem?_eq_some_iff.1 OB.h1).1 (Array.getElem?_eq_some_iff.1 h2').1 (Array.getElem?_eq_some_iff.1 OB.h3).1 xY) ?_
  rintro e w2 (⟨rfl,g,_⟩|⟨rfl,g⟩)
  ·exact⟨_,rfl,fin _ _ (.inl g)⟩
  ·exact⟨_,rfl,fin _ _ (.inr g)⟩
 refine wpIn_seq (wpIn_block (wpIn_loop (I:=fun a W=>∃r M,a=⟨M,[]⟩/\jP b1 b2 b3 p dw gu l k r M W/\fq (bN c r) W/\r.length<=k2)
  (μ:=fun a W=>match W.heap[b2]? with|some (.cells cur _ _)=>(match cur.toList with|[.string s]=>s.data.toList.length|_=>0)|_=>0) ⟨_,axx,rfl,aB2,aBY,hlen⟩ ?_))
 rintro a W ⟨r,M,rfl,I,hj,m'⟩;have MM:(match W.heap[b2]? with|some (.cells cur _ _)=>(match cur.toList with|[.string s]=>s.data.toList.length|_=>0)|_=>0)=r.length:=by
  obtain⟨s2,adj,h2',rZ⟩:=I.h2;rw[h2'];simp only;rw[rZ]
 rw[MM];have auz:∃fH,exec C r5 p5 (nY k c r) (DE C k t7 t8 c6 r7 p6 p7)=some fH/\((fH=.inl (ly k c r)/\bN c r=[r])\/∃i x,fH=.inr ((i,x),ly k c r)/\0<=i/\i.toNat<r.length/\x=r.take i.toNat/\bN c r=x::bN c (r.drop (i.toNat+1))):=by
  rw[T.hB];by_cases hi:Lib.indexByte r c<0
  ·simp only[hi,decide_true,ad];exact⟨_,rfl,.inl ⟨rfl,agv hi⟩⟩
  ·simp only[hi,decide_false,ak];obtain⟨g1,g2⟩:=agu (c:=c) (s:=r) (by omega)
   have hw:IntKind.i64.wrap (Lib.indexByte r c+0)=Lib.indexByte r c:=by rw[Int.add_zero];exact wrap_small (by omega) (by unfold k2 at m';omega)
   have eF:bq r 0 (IntKind.i64.wrap (Lib.indexByte r c+0))=some (r.take (Lib.indexByte r c).toNat):=by
    rw[hw];unfold bq;rw[if_pos ⟨by omega,by omega,by omega⟩];simp
   rw[eF];exact⟨_,rfl,.inr ⟨_,_,rfl,by omega,g2,rfl,g1⟩⟩
 obtain⟨fH,kJ,Xn⟩:=auz;refine wpIn_block (wpIn_seq (j7 (rn:=none) H r5 p5 (.inr axR) T.k9.2.1 W [b2] _ (nY k c r) _ M W [] (DE C k t7 t8 c6 r7 p6 p7) _ kJ (I.jQ jt js hp) ?_));intro N_ e5 a5 su x8 acP;cases N_ with
 |exit id st=>cases x8
 |ret st=>cases x8
 |norm axD=>
 cases e5<;>try exact acP.elim
 obtain⟨E0,Of,lC,lg,aeJ,qL,aBU,⟨Oj,azB⟩,vj,sB⟩:=acP;obtain⟨axy,azz⟩:=a5;have Oj:azz=aeJ.map mark++[]:=Oj;subst Oj;refine wpIn_seq (j7 (rn:=none) H c6 p6 (.inr axQ) T.k9.2.2.1 E0 Of lC axD lg axy su _ (xV C k t7 t8 r7 p7) _ x8 vj ?_);intro E2 mo yM pm uS uQ;have uQ:=fB.trans qL aBU azB sB uQ;cases E2 with
 |ret st=>cases uS
 |exit id abA=>
  cases mo<;>try exact uQ.elim
  obtain⟨auf,auc⟩:=uQ;subst auf;cases hid:Nat.beq id 2 with
  |false=>simp[xV,hid] at uS
  |true=>
   have hid:=cg hid;subst hid;simp only[xV,Nat.beq_refl,ad] at uS;obtain⟨y,hy,xX⟩:=Option.map_eq_some_iff.1 uS;rcases Xn with⟨rfl,hs⟩|⟨i,x,rfl,_⟩
   ·cases xX;obtain⟨d6,aB3,aCb⟩:=CZ I (fun t ay=>by simp only[bp,not_or];exact⟨(rY t ay).2.1,(rY t ay).2.2.1⟩) (by simp only[bp,not_or];exact⟨rW.2.1,rW.2.2.1⟩) auc hy
    obtain⟨abx,Ny⟩:=yM;have d6:Ny=[]:=d6;subst d6;have:=last aB3 (by rw[<-hs];exact sG _ _ _ hj aCb)
    exact this
   ·cases xX
 |norm abA=>
 cases mo<;>try exact uQ.elim
 simp only[xV] at uS;obtain⟨u',Z,yN,abh,aeI,OJ,aBT,⟨Oi,azA⟩,yO,sA⟩:=uQ;obtain⟨abx,Ny⟩:=yM;have Oi:Ny=aeI.map mark++[]:=Oi;subst Oi;refine wpIn_seq (j7 (rn:=none) H r7 p7 (.inr axP) T.k9.2.2.2.1 u' Z yN abA abh abx pm _ (Lo k t7 t8) _ uS yO ?_);intro N9 mn yL jZ ln qu;have qu:=fB.trans OJ aBT azA sA qu;cases N9 with
 |exit id st=>cases ln
 |ret st=>cases ln
 |norm axC=>
 cases mn<;>try exact qu.elim
 simp only[Lo] at ln;split at ln;case h_2=>cases ln
 rename_i i x ayH ayb;obtain⟨y,hy,xX⟩:=Option.map_eq_some_iff.1 ln;rcases Xn with⟨rfl,_⟩|⟨aDA,iQ,rfl,q1,q2,ec,nk⟩
 ·cases xX
 cases xX;have aub:=qu;obtain⟨d7,OA,aCa⟩:=CZ I (fun t ay=>by simp only[bp,not_or];exact⟨⟨(rY t ay).2.1,(rY t ay).2.2.1⟩,(rY t ay).2.2.2.1⟩)
  (by simp only[bp,not_or];exact⟨⟨rW.2.1,rW.2.2.1⟩,rW.2.2.2.1⟩) qu hy
 obtain⟨aBn,aDB,aDH,awM,aDI,_,_,_,pu,_⟩:=aub;have aef:=R_ pu ayH;obtain⟨jd,aBo,xY⟩:=R9 pu ayb;obtain⟨Mx,qB⟩:=yL;have d7:qB=[]:=d7;subst d7;have aeE:=sG _ _ _ hj aCa;rw[nk] at aeE;refine wpIn_seq (wpIn_seq (wpIn_region ?_));rw[show List.range (#[o0,o1,o2,o3]:Array Oper).size=[0,1,2,3] from rfl]
 have g0:o0.guard=none:=T.aY.1;have g1:o1.guard=none:=T.aY.2.1;have g2:o2.guard=none:=T.aY.2.2.1;have g3:o3.guard=none:=T.aY.2.2.2.1;simp only[wpOpsIn,List.getElem?_toArray,List.getElem?_cons_zero,List.getElem?_cons_succ,Region.wanted,g0,g1,g2,g3,if_true];have Fa:=(((OA.jQ jt js hp).nC (t:=t7) (v:=one (.int .i64 i)) (by rw[show Mx.getD t7 undef=_ from aef];exact .int _ _)).nC (t:=t8) (v:=one (.str x)) (by rw[show Mx.getD t8 undef=_ from aBo];exact .str _ _ xY)).nC (t:=0) (v:=ch (.dd (.func (.yield l) #[] #[]))) (show Mx.getD 0 undef=_ from OA.dS)
 refine UK H (T.bn c r i x _) Fa ?_
 intro kP pk axd xF NZ NY atQ W9 mq;have uG:∀t,t∈[0,1,2,3,t7]->t∉o0.dst.toList++o1.dst.toList/\t∉o3.dst.toList/\t≠t41:=fun t ay=>by
  have:=wU T.aed ay;simp only[bp,List.mem_singleton,not_or] at this;exact⟨by simp only[bp,not_or];exact⟨this.1,this.2.1⟩,this.2.2.1,this.2.2.2⟩
 have LI:∀{t:Nat},t<4->t∈[0,1,2,3,t7]:=fun {t} h=>by
  have:=four h;simp only[bO,List.not_mem_nil,or_false] at this ⊢;rcases this with h|h|h|h<;>simp[h]
 have m7:t7∈[0,1,2,3,t7]:=by simp
 have kV:jP b1 b2 b3 p dw gu l k r kP pk:=OA.of jt js mq (fun t ay=>W9 t (uG t (LI ay)).1) rfl
 have v87:kP.getD t7 undef=.int .i64 i:=(W9 t7 (uG t7 m7).1).trans aef;have aBZ:=sG _ _ _ aeE mq.frame;obtain⟨s2,adj,h2',rZ⟩:=kV.h2;refine RB T.c2 NZ NY (round x _ pk axd aBZ (Array.getElem?_eq_some_iff.1 kV.h1).1 (Array.getElem?_eq_some_iff.1 h2').1 (Array.getElem?_eq_some_iff.1 kV.h3).1 atQ) ?_
 have behind:∀(b:Bool) (ix:World),jP b1 b2 b3 p dw gu l k r (cP kP o2.dst (.bool b)) ix->(b=true->fq (bN c (r.drop (i.toNat+1))) ix)->(b=false->ks ix)->∀Q:Exit->Act->World->Prop,
   (∀a w,a.defers=[]->ks w->Q .ret a w)->(∀qm w2,jP b1 b2 b3 p dw gu l k (r.drop (i.toNat+1)) qm w2->fq (bN c (r.drop (i.toNat+1))) w2->Q .normal ⟨qm,[]⟩ w2)->
   o3.wpIn (e6 none) 0 P ⟨cP kP o2.dst (.bool b),[]⟩ ix (Exit.then (fun a w=>gJ none P (.cond (.tmp t42) .ret .skip) (Exit.then (fun a w=>gJ none P r9 Q a w) Q) a w) (Exit.then (fun a w=>gJ none P r9 Q a w) Q) .normal)
    (Exit.then (fun a w=>gJ none P (.cond (.tmp t42) .ret .skip) (Exit.then (fun a w=>gJ none P r9 Q a w) Q) a w) (Exit.then (fun a w=>gJ none P r9 Q a w) Q)):=by
  intro b ix aeF sg ayR Q rK arJ;have vb:(cP kP o2.dst (.bool b)).getD t41 undef=.bool b:=by
   rw[T.d2];have:t41<kP.size:=by rw[kV.size];exact T.Lj
   simp[cP,Array.getD_eq_getD_getElem?,this]
  have axt:(cP kP o2.dst (.bool b)).getD t7 undef=.int .i64 i:=by
   rw[jF (by rw[T.d2];simp;exact(uG t7 m7).2.2)];exact v87
  have yP:=(aeF.jQ jt js hp).nC (t:=t41) (v:=one (.bool b)) (by rw[show(cP kP o2.dst (.bool b)).getD t41 undef=_ from vb];exact .bool _)
  refine anO H (T.h3 c r b) yP ?_
  intro w_ Eb asc abv VL oa;have adP:jP b1 b2 b3 p dw gu l k r w_ Eb:=aeF.of jt js oa (fun t ay=>VL t (uG t (LI ay)).2.1) rfl
  have v107:w_.getD t7 undef=.int .i64 i:=(VL t7 (uG t7 m7).2.1).trans axt;cases b with
  |false=>
   have x9:=aeB _ _ (ayR rfl) oa.frame;exact wpIn_cond (t:=true) abv (wpIn_ret (rK _ _ rfl x9))
  |true=>
   have x9:=sG _ _ _ (sg rfl) oa.frame;refine wpIn_cond (t:=false) abv (wpIn_skip ?_);have nm:=(adP.jQ jt js hp).nC (t:=t7) (v:=one (.int .i64 i)) (by rw[show w_.getD t7 undef=_ from v107];exact .int _ _)
   have eF:bq r (IntKind.i64.wrap (i+(([c]:B).length:Int))) r.length=some (r.drop (i.toNat+1)):=by
    have e1:(([c]:B).length:Int)=1:=rfl;rw[e1,wrap_small (by omega) (by unfold k2 at m';omega)]
    unfold bq;rw[if_pos ⟨by omega,by omega,by omega⟩]
    have e2:(i+1).toNat=i.toNat+1:=by omega
    simp[e2]
   have yF:=T.yF c r i;rw[eF] at yF;refine j7 (rn:=none) H r9 p9 (.inr axO) T.k9.2.2.2.2 Eb [b2] _ _ _ w_ Eb [] (DF k) _ yF nm ?_
   intro xR u5 NC axp LA Z4;cases xR with
   |exit id st=>cases LA
   |ret st=>cases LA
   |norm aCD=>
   cases u5<;>try exact Z4.elim
   obtain⟨d11,aAO,aBd⟩:=CZ adP (fun t ay=>(rY t ay).2.2.2.2) rW.2.2.2.2 Z4 LA
   obtain⟨atw,auw⟩:=NC;have d11:auw=[]:=d11;subst d11;exact arJ atw axp aAO (sG _ _ _ x9 aBd)
 have same:∀{b:Bool} {ix:World},jg ix [b2] (fun _=>False)->pk.heap.size<=ix.heap.size->ix.heap[b1]? =pk.heap[b1]? ->ix.heap[b2]? =pk.heap[b2]? ->ix.heap[b3]? =pk.heap[b3]? ->jP b1 b2 b3 p dw gu l k r (cP kP o2.dst (.bool b)) ix:=by
  intro b ix g9 _ e1 e2 bz;have o_:∀t,t<4->(cP kP o2.dst (.bool b)).getD t undef=kP.getD t undef:=fun t ay=>jF (by rw[T.d2];simp;exact(uG t (LI ay)).2.2)
  refine⟨?_,(o_ 0 (by omega)).trans kV.dS,(o_ 1 (by omega)).trans kV.cT,(o_ 2 (by omega)).trans kV.dC,(o_ 3 (by omega)).trans kV.dW,e1.trans kV.h1,?_,bz.trans kV.h3,g9⟩
  ·rw[<-kV.size];cases o2.dst<;>simp[cP]
  ·obtain⟨h4,azN,g,cN⟩:=kV.h2;exact⟨h4,azN,e2.trans g,cN⟩
 rintro e ix (⟨rfl,aet,gs,azk,azj,azi⟩|⟨rfl,Od⟩)
 ·refine⟨_,rfl,behind true ix (same (aev _ _ aet) gs azk azj azi) (fun _=>aet) (fun h=>by cases h) _ (fun a w aa hx=>?_) (fun qm w2 aeG aB0=>?_)⟩
  ·show LeavesInM (e6 none) 0 P fn a.tmps R a.defers .returning w;rw[aa];exact fin _ _ (.inr hx)
  ·have aa:(r.drop (i.toNat+1)).length<r.length:=by rw[List.length_drop];omega
   refine⟨⟨_,qm,rfl,aeG,aB0,by omega⟩,?_⟩
   obtain⟨aej,aDn,g4,ayp⟩:=aeG.h2;rw[g4];simp only;rw[ayp];exact aa
 ·refine⟨_,rfl,?_⟩;have vb:(cP kP o2.dst (.bool false)).getD t41 undef=.bool false:=by
   rw[T.d2];have:t41<kP.size:=by rw[kV.size];exact T.Lj
   simp[cP,Array.getD_eq_getD_getElem?,this]
  have yP:az ix [] (fun _=>False) mN ⟨[(t41,one (.bool false))],[],k⟩ (cP kP o2.dst (.bool false)) ix:=by
   refine⟨?_,fun t=>?_,fun o ai h=>(by cases h),fun o ae b h=>(by obtain⟨_,h,_⟩:=h;cases h),fun o b h=>(by obtain⟨_,h,_⟩:=h;cases h),Fr.refl _ _,fun b h=>h.elim,⟨(aeu _ Od).ok,fun b hb h=>(by cases h),fun _ _ h=>h,(aeu _ Od).lt⟩⟩
   ·rw[T.d2];simp[cP,kV.size]
   ·show cy _ _ _ _ (match look [(t41,one (.bool false))] t with|some v=>v|none=>.av (.aq .any)) _
    simp only[look];cases hb:t41.beq t with
    |false=>trivial
    |true=>
     have:=cg hb;subst this;rw[vb];exact .bool _
  refine ou yP H T.ac9 fun aCE asc w_ Eb qA oa _=>?_
  split at qA
  ·rename_i b hb;cases qA;have x9:=aeB _ _ Od (oa.frame.mono fun b h=>by simp at h)
   refine wpIn_cond (t:=true) (Gf oa hb) (wpIn_ret ?_);exact fin _ _ (.inr x9)
  ·cases qA
end
def tQ:Code->Nat
 |.region i _ _=>i
 |_=>0
def nw:Code->Code
 |.rangeFunc _ _ a _=>a
 |_=>.skip
def ky:Code->Code
 |.rangeFunc _ _ _ b=>b
 |_=>.skip
def wX:List (Nat×iv)->List Nat
 |[]=>[]
 |p::r=>p.1::wX r
theorem ajr{P:Program}{C:Ctx}{c:Code}{q:Nat}{cZ:List (Nat×iv)}(aa:fs (wX cZ) (keys (gz c q))=true):gN P (hJ C cZ) c q:=by
 refine TQ c q fun p fM hm f ya=>?_
 exfalso
 have hf:tU cZ p=some f:=ya;clear ya;have h1:p∈wX cZ:=by
  clear aa;induction cZ with
  |nil=>cases hf
  |cons x cZ ih=>
   obtain⟨k,g⟩:=x;simp only[tU] at hf;cases hb:k.beq p with
   |true=>rw[<-cg hb];exact ci
   |false=>simp only[hb,ak] at hf;exact cf _ (ih hf)
 have h2:p∈keys (gz c q):=by
  generalize gz c q=l at hm;induction l with
  |nil=>cases hm
  |cons x l ih=>
   rcases bO.1 hm with rfl|hm
   ·exact ci
   ·exact cf _ (ih hm)
 rw[sZ h1 h2] at aa;cases aa
theorem akN{P:Program}{C:Ctx}(H:aT P C){cN:FuncId}(vl:wQ P cN){c:Code}{q p t fg:Nat}{be:Shape}{os:List aR}{cZ:List (Nat×iv)}{aW:B->be.J->Option (Sum be.J (aG os))}{fin:be.J->Option (aG os)}
  (nf:ap c q p=.rangeFunc (.tmp t) #[fg] (nw (ap c q p)) (ky (ap c q p))) (aa:fs (wX cZ) (keys (gz (nw (ap c q p)) (2*p)))=true)
  (hu:gf (keys (gz (ky (ap c q p)) (2*p+1)))=true) (eS:l2 P (ky (ap c q p)) (2*p+1) cZ)
  (hr:∀x y,aW x y=JX (hJ C cZ) (nw (ap c q p)) (ky (ap c q p)) p fg be os x y) (xl:∀y,fin y=hY os (.norm (be.st y)))
  (LC:fs (keys be.c5) (fg::(cJ (nw (ap c q p))++cJ (ky (ap c q p))))=true) (Lw:hI (nw (ap c q p))=true) (Lv:hI (ky (ap c q p))=true)
  (Ls:Nat.blt fg be.nt=true) (r4:ud be.nt os=true):aV P (ap c q p) (s5 cN t be os aW fin):=by
 rw[nf];exact ahv (C:=hJ C cZ) H vl (ajr aa) (lK hu eS) hr xl LC Lw Lv (by simpa using Ls) r4
theorem y8{P:Program}(w:World)(vh yy ty elem:TypeId)(k g D LK auy:Nat)(a:Addr)(K6 atA:Nat)(cur:Array Value)(t:TypeId)(cs:List Value)
  (hu:P.underlying vh=some (.slice elem)) (hs:(P.info? elem).map (·.size)=some k)
  (hg:w.heap[g]? =some (.cells cur t (0,0))) (hn:cs.length=Nat.min K6 LK*k)
  (fG:∀j v,cs[j]? =some v->w.cell? (a.add j)=some v) (l7:D+cs.length<=cur.size) (h1:∀v∈cs,v.oneCell'=true):
  (Builtin.copy_ #[vh,yy] ty #[.slice (some ⟨g,D,none⟩) LK auy,.slice (some a) K6 atA]).run P w=
   .ok (goInt (Nat.min K6 LK)) (w.setRow g (bY cur.toList D cs).toArray):=by
 have hl:=run_loadCells_list (P:=P) w a cs fG;have ei:=run_storeCells_at P g D t cs 0 cur w hg (by simpa using l7) h1
 cases aC:P.info? elem with
 |none=>simp[aC] at hs
 |some i=>
  have hi:i.size=k:=by simpa[aC] using hs
  simp[Builtin.copy_,run_underlying hu,Builtin.lenOf,Builtin.firstCells,sizeOf,typeInfo,aC,hi,<-hn,hl,ei,bY]
theorem Qg{P:Program}(w:World){D:Oper}{a:Act}{K:Act->World->Prop}{Q:Exit->Act->World->Prop}(d s:Operand)(t bw:TypeId)
  (aP:D.op=.call {callee:=.builtin .copy,args:=#[d,s],argTypes:=#[t,bw]}) (v u:Value) (aa:a.eval d=v) (hs:a.eval s=u) {v':Value} {w':World}
  (hr:(Builtin.copy_ #[t,bw] D.type #[v,u]).run P w=.ok v' w') (h:K (a.put D.dst v') w'):D.wp P a w K Q:=by
 unfold Oper.wp execOp;simp only[aP,resolve,invoke,builtin,Sem.run_bind,Sem.run_pure,Result.andThen_ok,List.map_toArray,List.map_cons,List.map_nil,aa,hs,hr];exact h
theorem OU{P:Program}(w:World){ops:Array Oper}{rest:List Oper}{D:Oper}{a:Act}{Q:Exit->Act->World->Prop}(Nf:D.guard=none)(d s:Operand)(t bw:TypeId)
  (aP:D.op=.call {callee:=.builtin .copy,args:=#[d,s],argTypes:=#[t,bw]}) (v u:Value) (aa:a.eval d=v) (hs:a.eval s=u) {v':Value} {w':World}
  (hr:(Builtin.copy_ #[t,bw] D.type #[v,u]).run P w=.ok v' w') (h:wpList P ops Q rest (a.put D.dst v') w'):wpList P ops Q (D::rest) a w:=
 wpList_plain Nf fun _ b5=>Qg w d s t bw aP v u aa hs hr (b5 _ _ h)
theorem Pk{P:Program}{ops:Array Oper}{D:Oper}{a:Act}{w:World}{K:Act->World->Prop}{Q:Exit->Act->World->Prop}{E:Prop}
  (hg:D.guard=none) (d x:Operand) (vh yy:TypeId) (M2:D.op=Op.call {callee:=Callee.builtin Builtin.copy,args:=#[d,x],argTypes:=#[vh,yy]})
  (v u:Value) (aa:a.eval d=v) (hx:a.eval x=u) {v':Value} {w':World} (hr:(Builtin.copy_ #[vh,yy] D.type #[v,u]).run P w=.ok v' w') (b5:K (a.put D.dst v') w'):
  if Region.wanted D (yielded ops a.tmps)=true then Oper.wp P D a w K Q else E:=by
 have hw:Region.wanted D (yielded ops a.tmps)=true:=by simp[Region.wanted,hg]
 rw[if_pos hw];exact Qg w d x vh yy M2 v u aa hx hr b5
theorem Fh{P:Program}(w:World){ops:Array Oper}{rest:List Oper}{D:Oper}{a:Act}{Q:Exit->Act->World->Prop}(Nf:D.guard=none)(d s:Operand)(t bw:TypeId)
  (aP:D.op=.call {callee:=.builtin .append,args:=#[d,s],argTypes:=#[t,bw]}) (v u:Value) (aa:a.eval d=v) (hs:a.eval s=u) {v':Value} {w':World}
  (hr:(Builtin.append_ #[t,bw] D.type #[v,u]).run P w=.ok v' w') (h:wpList P ops Q rest (a.put D.dst v') w'):wpList P ops Q (D::rest) a w:=
 wpList_plain Nf fun _ b5=>by
  unfold Oper.wp execOp;simp only[aP,resolve,invoke,builtin,Sem.run_bind,Sem.run_pure,Result.andThen_ok,List.map_toArray,List.map_cons,List.map_nil,aa,hs,hr];exact b5 _ _ h
def Bt(t:bi):List Arg->Option (List (den t)×Int×List (den t))
 |[.av (.aq (.fresh t1 xs)),.av (.aq (.d (.int .i64 i))),.av (.aq (.fresh t2 vs))]=>if h1:t1=t then(if h2:t2=t then some (h1▸xs,i,h2▸vs) else none) else none
 |_=>none
def uk{aD:Type}(bt:Nat)(xs:List aD)(i:Int)(vs:List aD):Option (List aD):=
 if 0<=i/\i<=xs.length/\(xs.length+vs.length)*bt<=room/\xs.length+vs.length<=maxLen then some (xs.take i.toNat++vs++xs.drop i.toNat) else none
def Jg(t:bi)(bt:Nat):aH:=fun as=>match Bt t as with
 |some (xs,i,vs)=>⟨List (den t),uk bt xs i vs,fun _=>[],fun r=>[.aq (.fresh t r)]⟩
 |none=>.fail
theorem agR{t:bi}{as:List Arg}{xs:List (den t)}{i:Int}{vs:List (den t)}(h:Bt t as=some (xs,i,vs)):as=[.av (.aq (.fresh t xs)),.av (.aq (.d (.int .i64 i))),.av (.aq (.fresh t vs))]:=by
 unfold Bt at h;split at h
 ·split at h
  ·rename_i h1;split at h
   ·rename_i h2;subst h1;subst h2;cases h;rfl
   ·cases h
  ·cases h
 ·cases h
structure amk(P:Program)(f:FuncId)(T e:TypeId)(bt:Nat):Prop where
 ars:∀(xa:Option Addr) (vc:Nat) (w:World),Calls P f #[.slice none 0 0,.int .i64 0,.slice xa 0 vc] w fun e w'=>e=.returned (.slice none 0 0)/\w'=w
 arq:∀(g n c i:Nat) (xa:Option Addr) (vc:Nat) (w:World) (hi:i<=n) (hnc:n<=c) (hc63:c<=9223372036854775807),
  Calls P f #[.slice (some ⟨g,0,none⟩) n c,.int .i64 i,.slice xa 0 vc] w fun e w'=>e=.returned (.slice (some ⟨g,0,none⟩) n c)/\w'=w
 auu:∀(xa:Option Addr) (m vc:Nat) (w:World) (hm:0<m) (v':Value) (W:World) (hr:∀ty,(Builtin.append_ #[T,T] ty #[.slice none 0 0,.slice xa m vc]).run P w=.ok v' W),
  Calls P f #[.slice none 0 0,.int .i64 0,.slice xa m vc] w fun e w'=>e=.returned v'/\w'=W
 aut:∀(g n c:Nat) (xa:Option Addr) (m vc:Nat) (w:World) (hnc:n<=c) (hc63:c<=9223372036854775807) (hm:0<m) (v':Value) (W:World) (hr:∀ty,(Builtin.append_ #[T,T] ty #[.slice (some ⟨g,0,none⟩) n c,.slice xa m vc]).run P w=.ok v' W),
  Calls P f #[.slice (some ⟨g,0,none⟩) n c,.int .i64 n,.slice xa m vc] w fun e w'=>e=.returned v'/\w'=W
 shift:∀(g n c i vb m vc:Nat) (cur vcur:Array Value) (te ve:TypeId) (w:World) (hi:i<n) (hm:0<m) (hroom:n+m<=c) (hc63:c<=9223372036854775807) (hne:vb≠g)
  (hg:w.heap[g]? =some (.cells cur te (0,0))) (hv:w.heap[vb]? =some (.cells vcur ve (0,0))) (hcs:cur.size=c*4) (hvs:m*4<=vcur.size)
  (h1c:∀v∈cur.toList.take (n*4),v.oneCell'=true) (h1v:∀v∈vcur.toList.take (m*4),v.oneCell'=true),
  Calls P f #[.slice (some ⟨g,0,none⟩) n c,.int .i64 i,.slice (some ⟨vb,0,none⟩) m vc] w fun e w'=>
   e=.returned (.slice (some ⟨g,0,none⟩) (n+m) c)/\w'=w.drew.setRow g (bY (bY cur.toList ((i+m)*4) ((cur.toList.take (n*4)).drop (i*4))) (i*4) (vcur.toList.take (m*4))).toArray
 grow:∀(g n c i vb m vc:Nat) (cur vcur:Array Value) (te ve:TypeId) (w:World) (hi:i<n) (hm:0<m) (hnc:n<=c) (hroom:c<n+m) (hc63:c<=9223372036854775807) (hbig:(n+m)*bt<=140737488355328)
  (hg:w.heap[g]? =some (.cells cur te (0,0))) (hv:w.heap[vb]? =some (.cells vcur ve (0,0))) (hcs:cur.size=c*4) (hvs:m*4<=vcur.size)
  (h1c:∀v∈cur.toList.take (n*4),v.oneCell'=true) (h1v:∀v∈vcur.toList.take (m*4),v.oneCell'=true),
  ∃G ROW,∃W:World,G<=maxLen/\n+m<=G/\ROW.size=G*4/\ROW.toList.take (i*4)=cur.toList.take (i*4)/\W.os=w.os/\W.tape=w.tape/\W.output=w.output/\W.heap=w.heap.push (.cells ROW e (0,0))/\
  Calls P f #[.slice (some ⟨g,0,none⟩) n c,.int .i64 i,.slice (some ⟨vb,0,none⟩) m vc] w fun e w'=>
   e=.returned (.slice (some ⟨w.heap.size,0,none⟩) (n+m) G)/\w'.os=w.os/\w'.tape=w.tape/\w'.output=w.output/\
    w'.heap=(W.setRow w.heap.size (bY (bY ROW.toList (i*4) (vcur.toList.take (m*4))) ((i+m)*4) ((cur.toList.take (n*4)).drop (i*4))).toArray).heap
theorem dj.take{w:World}{av:Nat->Prop}{ds:List bk}{vs:List Value}(h:dj w av ds vs)(n:Nat):dj w av (ds.take n) (vs.take n):=by
 refine⟨by rw[List.length_take,List.length_take,h.1],fun j g1 g2=>?_⟩
 simp only[List.getElem_take];simp only[List.length_take] at g1 g2;exact h.2 j (by omega) (by omega)
theorem dj.drop{w:World}{av:Nat->Prop}{ds:List bk}{vs:List Value}(h:dj w av ds vs)(n:Nat):dj w av (ds.drop n) (vs.drop n):=by
 refine⟨by rw[List.length_drop,List.length_drop,h.1],fun j g1 g2=>?_⟩
 simp only[List.getElem_drop];simp only[List.length_drop] at g1 g2;exact h.2 (n+j) (by omega) (by omega)
theorem dj.df{w:World}{av:Nat->Prop}{ds lp:List bk}{vs cH:List Value}(h:dj w av ds vs)(an:dj w av lp cH):dj w av (ds++lp) (vs++cH):=by
 refine⟨by rw[dx,dx,h.1,an.1],fun j g1 g2=>?_⟩
 rw[List.getElem_append,List.getElem_append];have:=h.1;simp only[dx] at g1 g2;by_cases hj:j<ds.length
 ·rw[dif_pos hj,dif_pos (by omega)]
  exact h.2 j hj (by omega)
 ·rw[dif_neg hj,dif_neg (by omega)]
  have:=an.2 (j-ds.length) (by omega) (by omega)
  simpa[h.1] using this
theorem dj.one{w:World}{av:Nat->Prop}{ds:List bk}{vs:List Value}(h:dj w av ds vs):∀v∈vs,v.oneCell'=true:=by
 intro v hv;obtain⟨j,hj,rfl⟩:=List.mem_iff_getElem.1 hv;exact(h.2 j (by rw[<-h.1];exact hj) hj).j6
theorem pG{t:bi}(h:bg t=4):t.kl=false:=by cases t<;>first|rfl|cases h
theorem Uq{t:bi}(h:bg t=4){e:TypeId}{cur:Array Value}:nS t.kl e cur (0,0):=⟨(fun an=>by rw[pG h] at an;cases an),.inl rfl⟩
theorem s6{w:World}{e:TypeId}{s:Nat}{v:Value}{n:Nat}{cs:List Value}{u:Bool}(hu:u=false)(h:rowAt w u e s v n cs):(v=.slice none 0 0/\n=0/\cs=[])\/
  ∃g c cur,v=.slice (some ⟨g,0,none⟩) n c/\w.heap[g]? =some (.cells cur e (0,0))/\n<=c/\c<=maxLen/\cur.size=c*s/\cur.toList.take (n*s)=cs:=by
 obtain⟨h1,h2⟩:=h;rcases h2 with⟨h2,h3⟩|⟨g,c,cur,fz,h2,h3,aF,bo,cp,iA,h8⟩
 ·subst h3;exact .inl ⟨h2,rfl,fP (by simpa using h1)⟩
 ·rcases h3.2 with rfl|⟨h3,_⟩
  ·exact .inr ⟨g,c,cur,h2,aF,bo,cp,iA,h8⟩
  ·rw[hu] at h3;cases h3
theorem Bs{t:bi}(aF:bg t=4){w w':World}{X:Nat->Prop}{dP:List Nat}{xs vs:List (den t)}{i:Nat}(hi:i<=xs.length){cs kO:List Value}{v':Value}(hcs:dj w (fun b=>X b\/b∈dP) (flat t xs) cs)(hvs:dj w (fun b=>X b\/b∈dP) (flat t vs) kO)
  (hrow:∃e,rowAt w' t.kl e 4 v' (xs.length+vs.length) (cs.take (i*4)++kO++cs.drop (i*4))) (aW:Fr dP w w') (hold:∀b,X b->b<w.heap.size) (hv:∀b,bZ v'=some b->b<w'.heap.size/\(b∈dP\/w.heap.size<=b)) (gr:∀b,b∈dP->¬X b)
  (args:List Arg) (eK:List Value) (fh:ep args eK=[]):
  ∃eN eM rv,Fr dP w w'/\jI w' (fun b=>X b\/b∈eN++eM) (ep args eK) [] eN/\lS w' (fun b=>X b\/b∈eN++eM) [.aq (.fresh t (xs.take i++vs++xs.drop i))] rv eM/\
   v'=oK rv/\(eN++eM).Nodup/\∀b,b∈eN++eM->¬X b/\(b∈dP\/w.heap.size<=b):=by
 have eG:∀b,b∈(bZ v').toList->bZ v'=some b:=fun b hb=>by
  cases aC:bZ v' with
  |none=>rw[aC] at hb;simp at hb
  |some c=>rw[aC] at hb;simp at hb;rw[hb]
 have ayx:∀b,b∈dP\/w.heap.size<=b->¬X b:=fun b hb hx=>by
  rcases hb with hb|hb
  ·exact gr b hb hx
  ·have:=hold b hx;omega
 have G:iK mN mN [] [] w w' (fun b=>X b\/b∈dP) (fun b=>X b\/b∈[]++((bZ v').toList++[])):=by
  refine⟨fun _ _ h=>(by cases h),fun b hb hlt=>aW.block b hlt (fun h=>hb (.inr h)),fun b hb hlt h=>?_⟩
  rcases h with h|h
  ·exact hb (.inl h)
  ·simp only[List.nil_append,List.append_nil] at h;rcases(hv b (eG b h)).2 with h|h
   ·exact hb (.inr h)
   ·omega
 have qe:∀b,(X b\/b∈[]++((bZ v').toList++[]))->b<w'.heap.size:=fun b h=>by
  rcases h with h|h
  ·exact Nat.lt_of_lt_of_le (hold b h) aW.size
  ·simp only[List.nil_append,List.append_nil] at h;exact(hv b (eG b h)).1
 obtain⟨e,hrow⟩:=hrow;have hlen:(xs.take i++vs++xs.drop i).length=xs.length+vs.length:=by simp only[dx,List.length_take,List.length_drop];omega
 have qx:flat t (xs.take i++vs++xs.drop i)=(flat t xs).take (i*4)++flat t vs++(flat t xs).drop (i*4):=by
  rw[sO,sO,nr,Rp,aF]
 have ej:dj w (fun b=>X b\/b∈dP) (flat t (xs.take i++vs++xs.drop i)) (cs.take (i*4)++kO++cs.drop (i*4)):=by
  rw[qx];exact((hcs.take _).df hvs).df (hcs.drop _)
 refine⟨[],(bZ v').toList++[],[v'],aW,by rw[fh];rfl,⟨_,[],rfl,⟨rfl,e,_,by rw[hlen,aF];exact hrow,ej.1,fun j g1 g2=>(ej.2 j g1 g2).goes G aW.size qe⟩,rfl⟩,rfl,?_,fun b hb=>?_⟩
 ·cases bZ v'<;>simp
 ·simp only[List.nil_append,List.append_nil] at hb;have:=(hv b (eG b hb)).2;exact⟨ayx b this,this⟩
theorem aiI(cur cs vs:List Value)(n m i:Nat)(hcs:cur.take (n*4)=cs)(hi:i<=n)(mZ:vs.length=m*4)(hn:n*4+m*4<=cur.length):
  (bY (bY cur ((i+m)*4) (cs.drop (i*4))) (i*4) vs).take ((n+m)*4)=cs.take (i*4)++vs++cs.drop (i*4):=by
 subst hcs;apply List.ext_getElem?;intro j;simp only[bY,List.getElem?_take,List.getElem?_append,List.getElem?_drop,dx,List.length_take,List.length_drop,mZ];repeat' split
 all_goals first|rfl|omega|(congr 1;omega)|skip
theorem aho(ROW cs vs:List Value)(n m i:Nat)(hROW:ROW.take (i*4)=cs.take (i*4))(hi:i<=n)(hcl:cs.length=n*4)(mZ:vs.length=m*4)(hn:n*4+m*4<=ROW.length):
  (bY (bY ROW (i*4) vs) ((i+m)*4) (cs.drop (i*4))).take ((n+m)*4)=cs.take (i*4)++vs++cs.drop (i*4):=by
 rw[<-hROW];apply List.ext_getElem?;intro j;simp only[bY,List.getElem?_take,List.getElem?_append,List.getElem?_drop,dx,List.length_take,List.length_drop,mZ,hcl];repeat' split
 all_goals first|rfl|omega|(congr 1;omega)|(symm;apply List.getElem?_eq_none;omega)
section
variable {aD S J bx:Type}
theorem d'{f:J->Option (Sum J bx)}{y y':J}(h:f y=some (.inl y')):bA f y=bA f y':=by rw[Ai,h]
theorem cC{f:J->Option (Sum J bx)}{y:J}{b:bx}(h:f y=some (.inr b)):bA f y=some b:=by rw[Ai,h]
def fc(body:Nat->aD->S->Option (Sum S bx))(fin:S->bx):Nat->List aD->S->Option bx
 |_,[],s=>some (fin s)
 |i,x::r,s=>match body i x s with
  |none=>none
  |some (.inl aQ)=>fc body fin (i+1) r aQ
  |some (.inr b)=>some b
theorem ajA(g:J->Option (Sum J bx))(xs:List aD)(st:Nat->S->J)(body:Nat->aD->S->Option (Sum S bx))(fin:S->bx)
  (h1:∀i x s,xs[i]? =some x->g (st i s)=(body i x s).map fun q=>match q with|.inl aQ=>.inl (st (i+1) aQ)|.inr b=>.inr b)
  (h2:∀s,g (st xs.length s)=some (.inr (fin s))):∀(r:List aD) (k:Nat),(∀i,r[i]? =xs[k+i]?)->k<=xs.length->∀s,bA g (st k s)=fc body fin k r s:=by
 intro r;induction r with
 |nil=>
  intro k hr hk s;have:k=xs.length:=by
   have:=hr 0;simp only[List.getElem?_nil,Nat.add_zero] at this;have:=(List.getElem?_eq_none_iff.1 this.symm);omega
  subst this;exact cC (h2 s)
 |cons x r ih=>
  intro k hr hk s;have hx:xs[k]? =some x:=by
   have:=hr 0;simpa using this.symm
  have hlt:k<xs.length:=(List.getElem?_eq_some_iff.1 hx).1;simp only[fc];have:=h1 k x s hx;cases hb:body k x s with
  |none=>
   rw[hb] at this;rw[Ai,this];rfl
  |some q=>
   rw[hb] at this;cases q with
   |inl aQ=>
    rw[d' (y':=st (k+1) aQ) this];exact ih (k+1) (fun i=>by have:=hr (i+1);rw[List.getElem?_cons_succ] at this;rw[this];congr 1;omega) hlt aQ
   |inr b=>exact cC this
theorem Gn(g:J->Option (Sum J bx))(xs:List aD)(st:Nat->S->J)(body:Nat->aD->S->Option (Sum S bx))(fin:S->bx)
  (h1:∀i x s,xs[i]? =some x->g (st i s)=(body i x s).map fun q=>match q with|.inl aQ=>.inl (st (i+1) aQ)|.inr b=>.inr b)
  (h2:∀s,g (st xs.length s)=some (.inr (fin s))) (s:S):bA g (st 0 s)=fc body fin 0 xs s:=
 ajA g xs st body fin h1 h2 xs 0 (fun i=>by rw[Nat.zero_add]) (Nat.zero_le _) s
theorem my(g:J->Option (Sum J bx))(xs:List aD)(st:Nat->S->J)(body:Nat->aD->S->Option (Sum S bx))(fin:S->bx)(I:Nat->S->Prop)(iR:S)(dG:I 0 iR)
  (h1:∀i x s,xs[i]? =some x->I i s->(g (st i s)=(body i x s).map fun q=>match q with|.inl aQ=>.inl (st (i+1) aQ)|.inr b=>.inr b)/\∀aQ,body i x s=some (.inl aQ)->I (i+1) aQ)
  (h2:∀s,I xs.length s->g (st xs.length s)=some (.inr (fin s))):bA g (st 0 iR)=fc body fin 0 xs iR:=by
 suffices h:∀(r:List aD) (k:Nat) (s:S),(∀i,r[i]? =xs[k+i]?)->k<=xs.length->I k s->bA g (st k s)=fc body fin k r s from
  h xs 0 iR (fun i=>by rw[Nat.zero_add]) (Nat.zero_le _) dG
 intro r;induction r with
 |nil=>
  intro k s hr hk dG;have:k=xs.length:=by
   have:=hr 0;simp only[List.getElem?_nil,Nat.add_zero] at this;have:=(List.getElem?_eq_none_iff.1 this.symm);omega
  subst this;exact cC (h2 s dG)
 |cons x r ih=>
  intro k s hr hk dG;have hx:xs[k]? =some x:=by
   have:=hr 0;simpa using this.symm
  have hlt:k<xs.length:=(List.getElem?_eq_some_iff.1 hx).1;simp only[fc];obtain⟨this,Ns⟩:=h1 k x s hx dG;cases hb:body k x s with
  |none=>
   rw[hb] at this;rw[Ai,this];rfl
  |some q=>
   rw[hb] at this;cases q with
   |inl aQ=>
    rw[d' (y':=st (k+1) aQ) this];exact ih (k+1) aQ (fun i=>by have:=hr (i+1);rw[List.getElem?_cons_succ] at this;rw[this];congr 1;omega) hlt (Ns aQ hb)
   |inr b=>exact cC this
def allI(ok:Nat->aD->Bool):Nat->List aD->Bool
 |_,[]=>true
 |i,x::r=>ok i x&&allI ok (i+1) r
theorem hH(ok:aD->Bool):∀(i:Nat) (xs:List aD),allI (fun _ x=>ok x) i xs=xs.all ok:=by
 intro i xs;induction xs generalizing i with
 |nil=>rfl
 |cons x r ih=>simp[allI,ih]
theorem Qf{ok mX:Nat->aD->Bool}:∀(xs:List aD) (j:Nat),(∀i x,j<=i->x∈xs->ok i x=mX i x)->allI ok j xs=allI mX j xs:=by
 intro xs;induction xs with
 |nil=>intro j _;rfl
 |cons x r ih=>
  intro j h;simp only[allI];rw[h j x (Nat.le_refl _) ci,ih (j+1) (fun i y hi hy=>h i y (by omega) (cf _ hy))]
theorem HR{ok mX:Nat->aD->Bool}:∀(xs:List aD) (j:Nat),allI (fun i x=>ok i x&&mX i x) j xs=(allI ok j xs&&allI mX j xs):=by
 intro xs;induction xs with
 |nil=>intro j;rfl
 |cons x r ih=>
  intro j;simp only[allI,ih];cases ok j x<;>cases mX j x<;>simp
theorem aoy(n:Nat):∀(xs:List aD) (j:Nat),allI (fun i _=>decide (i<n)) j xs=(xs.isEmpty||decide (j+xs.length<=n)):=by
 intro xs;induction xs with
 |nil=>intro j;rfl
 |cons x r ih=>
  intro j;simp only[allI,ih];cases r with
  |nil=>simp;omega
  |cons y r=>
   simp only[List.isEmpty_cons,Bool.false_or,cW];by_cases h:j<n
   ·simp only[h,decide_true,Bool.true_and];congr 1;apply propext;omega
   ·simp only[h,decide_false,Bool.false_and];symm;simp;omega
theorem y0(ok:Nat->aD->Bool)(step:aD->S->S)(no:bx)(fin:S->bx):∀(r:List aD) (k:Nat) (s:S),
  fc (fun i x s=>some (bif ok i x then .inl (step x s) else .inr no)) fin k r s=some (bif allI ok k r then fin (r.foldl (fun s x=>step x s) s) else no):=by
 intro r;induction r with
 |nil=>intro k s;rfl
 |cons x r ih=>
  intro k s;simp only[fc,allI];cases ok k x with
  |false=>rfl
  |true=>simp only[ad,Bool.true_and];exact ih _ _
theorem gv(g:J->Option (Sum J bx))(xs:List aD)(st:Nat->J)(ok:Nat->aD->Bool)(no xH:bx)
  (h1:∀i x,xs[i]? =some x->g (st i)=some (bif ok i x then .inl (st (i+1)) else .inr no)) (h2:g (st xs.length)=some (.inr xH)):
  bA g (st 0)=some (bif allI ok 0 xs then xH else no):=by
 rw[Gn (S:=Unit) g xs (fun i _=>st i) (fun i x _=>some (bif ok i x then .inl () else .inr no)) (fun _=>xH)
  (fun i x _ hx=>by rw[h1 i x hx];cases ok i x<;>rfl) (fun _=>h2) ()]
 suffices h:∀(r:List aD) (k:Nat),fc (fun i x (_:Unit)=>some (bif ok i x then .inl () else .inr no)) (fun _=>xH) k r ()=some (bif allI ok k r then xH else no) from h xs 0
 intro r;induction r with
 |nil=>intro k;rfl
 |cons x r ih=>
  intro k;simp only[fc,allI];cases ok k x with
  |false=>rfl
  |true=>simp only[ad,Bool.true_and];exact ih _
theorem Rd(g:J->Option (Sum J bx))(xs:List aD)(st:Nat->S->J)(step:aD->S->S)(fin:S->bx)(I:Nat->S->Prop)(s:S)(dG:I 0 s)
  (h1:∀i x s,xs[i]? =some x->I i s->g (st i s)=some (.inl (st (i+1) (step x s)))/\I (i+1) (step x s)) (h2:∀s,I xs.length s->g (st xs.length s)=some (.inr (fin s))):
  bA g (st 0 s)=some (fin (xs.foldl (fun s x=>step x s) s)):=by
 suffices h:∀(r:List aD) (k:Nat) (s:S),(∀i,r[i]? =xs[k+i]?)->k<=xs.length->I k s->bA g (st k s)=some (fin (r.foldl (fun s x=>step x s) s)) from
  h xs 0 s (fun i=>by rw[Nat.zero_add]) (Nat.zero_le _) dG
 intro r;induction r with
 |nil=>
  intro k s hr hk dG;have:k=xs.length:=by
   have:=hr 0;simp only[List.getElem?_nil,Nat.add_zero] at this;have:=(List.getElem?_eq_none_iff.1 this.symm);omega
  subst this;exact cC (h2 s dG)
 |cons x r ih=>
  intro k s hr hk dG;have hx:xs[k]? =some x:=by
   have:=hr 0;simpa using this.symm
  have hlt:k<xs.length:=(List.getElem?_eq_some_iff.1 hx).1;obtain⟨e,Ns⟩:=h1 k x s hx dG;rw[d' e];exact ih (k+1) _ (fun i=>by have:=hr (i+1);rw[List.getElem?_cons_succ] at this;rw[this];congr 1;omega) hlt Ns
end
abbrev aA(n:Nat):Prop:=n<=1099511627776
theorem cd{aD:Type}(xs:List aD)(i:Nat):aS xs (i:Int)=xs[i]? :=by
 unfold aS;rw[if_pos (Int.natCast_nonneg i),Int.toNat_natCast]
theorem fQ{n i:Nat}(h:i<n):bh n (i:Int)=some i:=by
 unfold bh;rw[if_pos ⟨Int.natCast_nonneg i,by omega⟩,Int.toNat_natCast]
theorem c'{n:Int}(h:-9223372036854775808<=n)(an:n<=9223372036854775807):IntKind.i64.wrap n=n:=by
 rw[IntKind.wrap_i64];omega
theorem b9{i:Nat}(h:aA i):IntKind.i64.wrap ((i:Int)+1)=((i+1:Nat):Int):=by
 rw[c' (by unfold aA at h;omega) (by unfold aA at h;omega)];omega
theorem vA{i:Nat}(h:aA i):IntKind.i64.wrap (((i+1:Nat):Int)-1)=(i:Int):=by
 rw[c' (by unfold aA at h;omega) (by unfold aA at h;omega)];omega
theorem qY{aD:Type}{xs:List aD}{a b:Nat}(h:a<=b)(h2:b<=xs.length):bq xs (a:Int) (b:Int)=some ((xs.take b).drop a):=by
 unfold bq;rw[if_pos ⟨Int.natCast_nonneg a,by omega,by omega⟩,Int.toNat_natCast,Int.toNat_natCast]
theorem gw{aD:Type}{xs:List aD}{b:Nat}(h2:b<=xs.length):bq xs 0 (b:Int)=some (xs.take b):=by
 have:=qY (a:=0) (Nat.zero_le b) h2;simpa using this
theorem fO{aD:Type}{xs:List aD}{a:Nat}(h2:a<=xs.length):bq xs (a:Int) (xs.length:Int)=some (xs.drop a):=by
 rw[qY h2 (Nat.le_refl _),List.take_length]
theorem dy{aD:Type}{bytes:Nat}{xs bm:List aD}(hb:bytes<=100)(h:aA (xs.length+bm.length)):cl bytes xs bm=some (xs++bm):=by
 unfold cl;have h1:(xs.length+bm.length)*bytes<=room:=by unfold room;exact Nat.le_trans (Nat.mul_le_mul h hb) (by decide)
 have h2:xs.length+bm.length<=maxLen:=by unfold maxLen;unfold aA at h;omega
 rw[if_pos ⟨h1,h2⟩]
theorem VI{aD:Type}{bytes n:Nat}{z:aD}(hb:bytes<=100)(h:aA n):kk bytes (n:Int) (n:Int) z=some (List.replicate n z):=by
 unfold kk;have:((n:Int)*(bytes:Int))<=(room:Int):=by
  have:n*bytes<=room:=by unfold room;exact Nat.le_trans (Nat.mul_le_mul h hb) (by decide)
  rw[<-Int.natCast_mul];omega
 rw[if_pos ⟨by omega,by omega,this,by unfold maxLen;unfold aA at h;omega⟩,Int.toNat_natCast]
theorem a':IntKind.i64.wrap 1=1:=by decide
theorem _g(i:Nat):((i:Int)==0)=(i==0):=by
 cases h:(i==0)
 ·simp only[beq_eq_false_iff_ne,ne_eq] at h ⊢;omega
 ·simp only[beq_iff_eq] at h ⊢;omega
theorem pd(a b:Int):decide (a<b)=!decide (b<=a):=by
 by_cases h:b<=a<;>simp[h]<;>omega
theorem n'(a b:Int):decide (a>b)=!decide (a<=b):=pd b a
theorem Nx(a b:Int):decide (a>=b)=decide (b<=a):=rfl
theorem ct{i n:Nat}(h:i<n):decide ((i:Int)<(n:Int))=true:=by simpa using h
theorem dL{n:Nat}:decide ((n:Int)<(n:Int))=false:=by simp
theorem da{aD:Type}{xs:List aD}{i:Nat}{x:aD}(h:xs[i]? =some x):i<xs.length:=(List.getElem?_eq_some_iff.1 h).1
def nT(P:Program):Nat->List (TypeId×Nat×Bool)->List aU->Prop
 |_,[],[]=>True
 |k,(t,D,b)::b0,.d (.int i _)::z=>D=k/\b=false/\(cu.int i).ok P t/\nT P (k+1) b0 z
 |k,(t,D,b)::b0,.d (.bool _)::z=>D=k/\b=false/\(cu.bool).ok P t/\nT P (k+1) b0 z
 |k,(t,D,b)::b0,.d (.str _)::z=>D=k/\b=false/\(cu.str).ok P t/\nT P (k+1) b0 z
 |_,_,_=>False
section
variable {P:Program}{w:World}
theorem TN{t:TypeId}{ti:cu}(h:ti.ok P t)(hn:ti≠.none)(ha:ti.agg=false){vs:List Value}{k:Nat}{v:Value}(hv:vs[k]? =some v):(part t vs.toArray k).run P w=.ok v w:=by
 unfold part;simp only[Sem.run_bind,cu.Q5 h hn,ha,Result.andThen_ok,Bool.false_eq_true,if_false];simp[hv]
theorem af9{d:Nat}:∀{b0:List Field} {k:Nat} {z:List aU} {vs us:List Value} {b:Bool},nT P k (b0.map fun f=>(f.type,f.offset,f.name== "_")) z->b0≠[]->j5 (vs.drop k) (us.drop k)=some b->qh z (vs.drop k)=true->
  (Op.eqFields (d+1) vs.toArray us.toArray b0).run P w=.ok b w:=by
 intro b0;induction b0 with
 |nil=>intro k z vs us b _ h;exact absurd rfl h
 |cons f b0 ih=>
  intro k z vs us b he _ hc hf;cases uH:vs.drop k with
  |nil=>rw[uH] at hc;cases us.drop k<;>cases hc
  |cons v pn=>
   cases Et:us.drop k with
   |nil=>rw[uH,Et] at hc;cases pn<;>cases hc
   |cons u sw=>
    have hv:vs[k]? =some v:=by rw[<-List.head?_drop,uH];rfl
    have hu:us[k]? =some u:=by rw[<-List.head?_drop,Et];rfl
    have acH:vs.drop (k+1)=pn:=by rw[<-List.tail_drop,uH];rfl
    have ayh:us.drop (k+1)=sw:=by rw[<-List.tail_drop,Et];rfl
    rw[uH] at hf;rw[uH,Et] at hc;have key:∃r ss,oD v u=some r/\f.offset=k/\(f.name== "_")=false/\(part f.type vs.toArray k).run P w=.ok v w/\(part f.type us.toArray k).run P w=.ok u w/\
      (Op.equalIn (d+1) f.type v u).run P w=.ok r w/\nT P (k+1) (b0.map fun f=>(f.type,f.offset,f.name== "_")) ss/\qh ss pn=true:=by
     have hle:∃r,oD v u=some r:=by
      cases hl:oD v u with
      |some r=>exact⟨r,rfl⟩
      |none=>cases pn<;>cases sw<;>simp[j5,hl] at hc
     obtain⟨r,hr⟩:=hle;have me:=hr;refine⟨r,z.tail,me,?_⟩;cases z with
     |nil=>cases v<;>cases hf
     |cons aBg ss=>
      cases aBg<;>try(cases hf;done)
      rename_i aBM;cases aBM<;>try(cases hf;done)
      all_goals(simp only[List.map_cons,nT] at he;obtain⟨h1,h2,h3,aF⟩:=he)
      all_goals(cases v<;>try(cases hf;done))
      all_goals(cases u<;>try(cases hr;done))
      all_goals(refine⟨h1,h2,TN h3 (by intro h;cases h) rfl hv,TN h3 (by intro h;cases h) rfl hu,?_,aF,hf⟩)
      ·simp only[oD] at hr;split at hr
       ·rename_i e;subst e;cases hr;exact run_equalIn_int w d _ _ _ _ _ h3.1
       ·cases hr
      ·simp only[oD,bE] at hr;subst hr;exact run_equalIn_bool' w d _ _ _ h3.1
      ·simp only[oD,bE] at hr;subst hr;rw[run_equalIn_string w d _ _ _ h3.1,beq_toListBytes]
    obtain⟨r,ss,g1,g2,g3,g4,g5,g6,g7,g8⟩:=key;have jc:f.name≠ "_" :=by simpa using g3
    rw[Op.eqFields];simp only[if_pos jc,g2,Sem.run_bind,g4,g5,g6,Result.andThen_ok];cases b0 with
    |nil=>
     have Dh:pn=[]:=by
      cases ss with
      |nil=>cases pn with
       |nil=>rfl
       |cons x _=>cases x<;>cases g8
      |cons x _=>cases x<;>(try rename_i Oh;cases Oh)<;>simp only[List.map_nil,nT] at g7
     subst Dh;have:sw=[]:=by
      cases sw with
      |nil=>rfl
      |cons x aDq=>simp[j5] at hc
     subst this;simp only[j5] at hc;rw[g1] at hc;cases hc;cases b<;>simp[Op.eqFields]
    |cons f2 aDk=>
     have hne:pn≠[]:=by
      rintro rfl;cases ss with
      |nil=>simp only[List.map_cons,nT] at g7
      |cons x _=>cases x<;>(try rename_i Oh;cases Oh)<;>cases g8
     have:∃s,j5 pn sw=some s/\b=(r&&s):=by
      cases pn with
      |nil=>exact absurd rfl hne
      |cons v2 axs=>
       simp only[j5,g1] at hc;cases hs:j5 (v2::axs) sw with
       |none=>rw[hs] at hc;cases sw<;>simp at hc
       |some s=>rw[hs] at hc;simp only[bE] at hc;exact⟨s,rfl,hc.symm⟩
     obtain⟨s,hs,rfl⟩:=this;have:=ih (k:=k+1) (z:=ss) (vs:=vs) (us:=us) (b:=s) g7 (by simp) (by rw[acH,ayh];exact hs) (by rw[acH];exact g8)
     cases r
     ·simp
     ·simpa using this
theorem ajT{T:TypeId}{fields:Array Field}{l:List (TypeId×Nat×Bool)}{z:List aU}(hu:P.underlying T=some (.struct fields))(hp:P.stoodInHeld T=false)(hg:P.eqGuardType P.depth T=false)
  (hm:(fields.toList.map fun f=>(f.type,f.offset,f.name== "_"))=l) (hne:fields.toList≠[]) (he:nT P 0 l z):
  P.eqGuardType P.depth T=false/\∀(vs us:List Value) (b:Bool) (w:World),j5 vs us=some b->qh z vs=true->(Op.equal T (.agg vs.toArray) (.agg us.toArray)).run P w=.ok b w:=by
 refine⟨hg,fun vs us b w hc hf=>?_⟩
 have EE:P.fieldsOf T=fields:=by simp[Program.fieldsOf,hu]
 show(Op.equalIn (9999+1) T (.agg vs.toArray) (.agg us.toArray)).run P w=_;rw[run_equalIn_struct (P:=P) w 9999 T _ _ (by rw[EE];exact hu) hp,EE]
 exact af9 (d:=9998) (k:=0) (by rw[hm];exact he) hne hc hf
end
def JB:aH:=fun as=>match tg as with
 |some (s,c)=>⟨Unit,some (),fun _=>[],fun _=>[.aq (.d (.int .i64 ((Lib.countByte s c.toNat.toUInt8:Nat):Int)))]⟩
 |none=>.fail
theorem aga{P:Program}{g:FuncId}{fn:Func}(hf:P.funcs[g]? =some fn)(ry:(fn.name== "runtime.NumGoroutine")=false)(hb:fn.body.isNone=true)(hn:Extern.findNext fn=none)
  (he:Extern.find fn=some Extern.BytealgCount.count):aE P g JB:=by
 intro as;unfold JB;cases aC:tg as with
 |none=>intro y hy;cases hy
 |some q=>
  obtain⟨s,c⟩:=q;have has:=Pw aC;subst has;intro y hy w X vs dP bU _ _ _ _;match vs,bU with
  |[v1,v2],⟨a1,a2,e1,h1,c1,c2,e2,h2,bz⟩=>
   obtain⟨fx,r1⟩:=h1;obtain⟨z2,r2⟩:=h2;subst fx z2 bz;simp only[List.append_nil] at e2;subst e2;simp only[List.append_nil] at e1;subst e1;obtain⟨b,rfl,ew⟩:=gY r1;have e:=iW r2;subst e;refine .inr ⟨.int .i64 ((Lib.countByte b.data.toList c.toNat.toUInt8:Nat):Int),w,?_,[],[],[.int .i64 ((Lib.countByte s c.toNat.toUInt8:Nat):Int)],Fr.refl _ _,?_,?_,?_,by simp,fun b hb=>by simp at hb⟩
   ·rw[run_callFunc_extern hf ry hb hn he];show((Extern.BytealgCount.count #[.string b,.int .u8 c]).run P w).andThen _=_;rw[Lib.run_countString];rfl
   ·simp[ep,jI]
   ·exact⟨[],[],rfl,⟨rfl,.int _ _⟩,rfl⟩
   ·rw[ew];rfl
end Go.Jk
namespace Go.Jk
open Go.RowKit
def B6:List Arg->Option (B×B)
 |[.av (.aq (.d (.str s))),.av (.aq (.d (.str p)))]=>some (s,p)
 |_=>none
theorem ahl{as:List Arg}{s p:B}(h:B6 as=some (s,p)):as=[.av (.aq (.d (.str s))),.av (.aq (.d (.str p)))]:=by
 unfold B6 at h;split at h
 ·cases h;rfl
 ·cases h
def rD(s p:B):Option Unit:=if s.length<4294967281/\2<=p.length/\p.length<=1000000/\(p.all fun b=>decide (b.toNat<128))=true then some () else none
def FQ:aH:=fun as=>match B6 as with
 |some (s,p)=>⟨Unit,rD s p,fun _=>[],fun _=>[.aq (.d (.int .i64 (Lib.indexAny s p)))]⟩
 |none=>.fail
theorem amd{w w':World}(h:Below w.heap.size w w'):Fr [] w w':=⟨h.os,h.tape,h.output,h.size,fun b hb _=>h.block b hb⟩
theorem ajL{P:Program}{g:FuncId}(he:∀args w,(callFunc g args).run P w=.ok (.enter g args) w)
  (h:∀(s p:ByteArray) (w:World),s.size<4294967281->2<=p.size->p.size<=1000000->(∀(j:Nat) b,p.data.toList[j]? =some b->b.toNat<128)->Calls P g #[.string s,.string p] w fun e w'=>e=.returned (.int .i64 (Lib.indexAny s.data.toList p.data.toList))/\Below w.heap.size w w'):aE P g FQ:=by
 intro as;unfold FQ;cases aC:B6 as with
 |none=>intro y hy;cases hy
 |some q=>
  obtain⟨s,p⟩:=q;have has:=ahl aC;subst has;intro y hy w X vs dP bU _ gr hlt hG;have hy:rD s p=some y:=hy;unfold rD at hy;split at hy
  ·rename_i hn;match vs,bU with
   |[v1,v2],⟨a1,a2,e1,h1,c1,c2,e2,h2,bz⟩=>
    obtain⟨fx,r1⟩:=h1;obtain⟨z2,r2⟩:=h2;subst fx z2 bz;simp only[List.append_nil] at e2;subst e2;simp only[List.append_nil] at e1;subst e1;obtain⟨b,rfl,hb⟩:=gY r1;obtain⟨c,rfl,hc⟩:=gY r2;have hs:∀(x:ByteArray) (l:B),x.data.toList=l->x.size=l.length:=fun x l hx=>by rw[<-hx];exact Lib.size_eq x
    refine .inl ⟨he _ _,(h b c w (by rw[hs b s hb];exact hn.1) (by rw[hs c p hc];exact hn.2.1) (by rw[hs c p hc];exact hn.2.2.1) (fun j x hx=>?_)).mono fun e w' hw=>?_⟩
    ·rw[hc] at hx;have:=List.all_eq_true.1 hn.2.2.2 x (eJ hx);simpa using this
    ·obtain⟨rfl,hw⟩:=hw;rw[hb,hc];exact⟨[],[],[.int .i64 (Lib.indexAny s p)],amd hw,rfl,⟨[],[],rfl,⟨rfl,.int _ _⟩,rfl⟩,rfl,by simp,fun b hb=>by simp at hb⟩
  ·cases hy
end Go.Jk
namespace Go.Jk
abbrev OH:=(Int×Unit)×Unit
def lh(nt:Nat):Shape:=⟨[(1,.aq (.ptr 1 0))],[(1,.box [.d (.sl .pack)],.same)],nt⟩
def gR(nt:Nat):Shape:=⟨[(1,.aq (.ptr 1 0)),(13,.aq (.d (.int .i64))),(14,.aq (.d (.int .i64)))],[(1,.box [.d (.sl .pack)],.same)],nt⟩
def nj(nt:Nat)(ps:List aK):(lh nt).J:=(((),()),((ps,()),()))
def hZ(nt:Nat)(ps:List aK)(n i:Int):(gR nt).J:=(((),(n,(i,()))),((ps,()),()))
noncomputable def four(nt:Nat)(C:Ctx)(st:ao)(m0 m1 m2 m3:Oper):Option ((List (FuncId×List (Nat×Nat)))×(lh nt).J):=
 k0 C st m0 fun st=>k0 C st m1 fun st=>k0 C st m2 fun st=>k0 C st m3 fun st=>match st.get 7,st.get 8,st.get 9,st.get 10,st.ai 1 with
  |.av (.aq (.clo a aeA)),.av (.aq (.clo b cb)),.av (.aq (.clo c kU)),.av (.aq (.clo d aez)),some (.box 0 _)=>((lh nt).ex st).map fun y=>([(a,aeA),(b,cb),(c,kU),(d,aez)],y)
  |_,_,_,_,_=>none
def MJ(nt:Nat):Out->Option (Bool×(gR nt).J)
 |.norm st=>match st.get 15 with
  |.av (.aq (.d (.bool b)))=>((gR nt).ex st).map fun y=>(b,y)
  |_=>none
 |_=>none
def ru(nt:Nat)(os:List aR):Out->Option (Sum (gR nt).J (aG os))
 |.norm st=>((gR nt).ex st).map .inl
 |D=>(hY os D).map .inr
def W_(nt:Nat):Out->Option (gR nt).J
 |.norm st=>(gR nt).ex st
 |_=>none
def rq{bx:Type}(ps:List aK)(mk:Int->bx):List (List aK->Option OH)->Option bx
 |[]=>some (mk 0)
 |c::cs=>(c ps).bind fun r=>bif(r.1.1 !=0) then some (mk r.1.1) else rq ps mk cs
section
variable {P:Program}{U:World}{Z:List Nat}{X:Nat->Prop}{F:Nat->Value}{st:ao}{M:Array Value}{w:World}
theorem pP{D:Oper}{v:Value}{w':World}(h:(execOp (Act.eval ⟨M,[]⟩) D).run P w=.ok (.value v) w'){rn:Option Nat}{ds:List Deferred}{K:Act->World->Prop}{Q:Exit->Act->World->Prop}
  (hk:K ⟨cP M D.dst v,ds⟩ w'):D.wpIn (e6 rn) 0 P ⟨M,ds⟩ w K Q:=by
 refine Oper.wpIn_mono ?_ (KL (K:=fun a w2=>a=⟨cP M D.dst v,[]⟩/\w2=w') (fun _ _ h=>by rw[h.1]) (pO h ⟨rfl,rfl⟩) rn ds)
 rintro a w2 ⟨v',rfl,h1,rfl⟩;simp only[Act.mk.injEq,and_true] at h1;rw[h1];exact hk
theorem run_move{D:Oper}{x:Operand}(aP:D.op=.move x\/D.op=.assign x):(execOp (Act.eval ⟨M,[]⟩) D).run P w=.ok (.value (Act.eval ⟨M,[]⟩ x)) w:=by
 unfold execOp;rcases aP with aP|aP<;>simp only[aP,Sem.run_pure]
theorem az.K7(S:az U Z X F st M w){ca:Array Value}(h:∀t,ca.getD t undef=M.getD t undef\/st.get t=.av (.aq .any))(hs:ca.size=M.size):az U Z X F st ca w:=by
 refine⟨hs.trans S.nt,fun t=>?_,S.sites,S.eB,S.cF,S.frame,S.old,S.ft⟩
 rcases h t with h|h
 ·rw[h];exact S.c5 t
 ·rw[h];trivial
theorem IH{nt:Nat}{ps:List aK}{t:Nat}(h:t≠1):((lh nt).st (nj nt ps)).get t=.av (.aq .any):=by
 show(match look [(1,ch (.ptr 1 0 0))] t with|some v=>v|none=>.av (.aq .any))=_
 simp only[look];rw[kh (fun e=>h e.symm)]
 rfl
theorem IF{nt:Nat}{ps:List aK}{n i:Int}{t:Nat}(h:t≠1)(h3:t≠13)(aF:t≠14):((gR nt).st (hZ nt ps n i)).get t=.av (.aq .any):=by
 show(match look [(1,ch (.ptr 1 0 0)),(13,one (.int .i64 n)),(14,one (.int .i64 i))] t with|some v=>v|none=>.av (.aq .any))=_
 simp only[look];rw[kh (fun e=>h e.symm),kh (fun e=>h3 e.symm),kh (fun e=>aF e.symm)]
 rfl
theorem pC{M:Array Value}{t:Nat}{v:Value}(h:t<M.size):(cP M (some t) v).getD t undef=v:=by
 simp[cP,Array.getD_eq_getD_getElem?,h]
theorem kv{M:Array Value}{d:Option Nat}{v:Value}:(cP M d v).size=M.size:=by cases d<;>simp[cP]
structure aoz(P:Program)(C:im)(nt:Nat)(os:List aR)(T e:TypeId)(m0 m1 m2 m3 m4 m5 n0 n1 n2 q0 r0 r1 r2:Oper)(i3:Nat)(BB r8 E:Code)(p3 pB p8 pE:Nat)(g0 g1 g2 g3:FuncId)(c0 c1 c2 c3:List aK->Option OH)(mk:Int->aG os):Prop where
 rS:P.underlying T=some (.slice e)
 Mw:C.tt e=.func
 aY:m0.guard=none/\m1.guard=none/\m2.guard=none/\m3.guard=none/\m4.guard=none/\m5.guard=none/\n0.guard=none/\n1.guard=none/\n2.guard=none/\r0.guard=none/\r1.guard=none/\r2.guard=none
 N7:m4.op=.buildSlice T 4 #[(0,.tmp 7),(1,.tmp 8),(2,.tmp 9),(3,.tmp 10)]/\m5.op=.assign (.tmp 11)
 on:n0.op=.move (.tmp 3)/\n1.op=.call {callee:=.builtin .len,args:=#[.tmp 12],argTypes:=#[T]}/\n2.op=.move (.const (.int .i64 0))
 Ei:r0.op=.indexAddr T (.tmp 12) (.tmp 14)/\r1.op=.load e (.tmp 16)/\r2.op=.assign (.tmp 17)
 dst:m4.dst=some 11/\m5.dst=some 3/\n0.dst=some 12/\n1.dst=some 13/\n2.dst=some 14/\r0.dst=some 16/\r1.dst=some 17/\r2.dst=some 5
 Li:20<=nt
 MD:hI BB=true
 acu:hI r8=true
 acs:hI E=true
 wr:fs [1,12,h'] (q0.dst.toList++(cJ BB++(cJ r8++(m0.dst.toList++(m1.dst.toList++(m2.dst.toList++m3.dst.toList))))))=true
 axk:fs [h'] (cJ E)=true
 k9:gN P C (.region i3 #[q0] false) p3/\gN P C BB pB/\gN P C r8 p8/\gN P C E pE
 hos:∀id st,hY os (.exit id st)=none
 aF:∀ps,four nt C.toCtx ((lh nt).st (nj nt ps)) m0 m1 m2 m3=some ([(g0,[(1,0)]),(g1,[(1,0)]),(g2,[(1,0)]),(g3,[(1,0)])],nj nt ps)
 xk:∀ps n i,(gR nt).ex ((((lh nt).st (nj nt ps)).set 13 (one (.int .i64 n))).set 14 (one (.int .i64 i)))=some (hZ nt ps n i)
 hlt:∀ps n i,exec C (.region i3 #[q0] false) p3 ((gR nt).st (hZ nt ps n i)) (MJ nt)=some (decide (i<n),hZ nt ps n i)
 hB:∀gc,gc∈[(g0,c0),(g1,c1),(g2,c2),(g3,c3)]->∀ps n i,exec C BB pB (((gR nt).st (hZ nt ps n i)).set 5 (ch (.clo gc.1 [(1,0)]))) (ru nt os)=(gc.2 ps).bind fun r=>bif(r.1.1 !=0) then some (.inr (mk r.1.1)) else some (.inl (hZ nt ps n i))
 h8:∀ps n i,exec C r8 p8 ((gR nt).st (hZ nt ps n i)) (W_ nt)=some (hZ nt ps n (IntKind.i64.wrap (i+1)))
 hE:∀ps n i,exec C E pE ((gR nt).st (hZ nt ps n i)) (hY os)=some (mk 0)
end
section
variable {P:Program}{C:im}
theorem akI{T e:TypeId}(bn:P.underlying T=some (.slice e))(he:(P.info? e).map (fun i=>(i.size,i.zero))=some (1,some .nilFunc)){v0 v1 v2 v3:Value}(h:∀v∈[v0,v1,v2,v3],v.cells=#[v])(w:World):
  (Instr.buildSlice T 4 #[(0,v0),(1,v1),(2,v2),(3,v3)]).run P w=.ok (.slice (some ⟨w.heap.size,0,none⟩) 4 4) (w.alloc (.cells #[v0,v1,v2,v3] e)):=by
 cases hi:P.info? e with
 |none=>simp[hi] at he
 |some i=>
  simp only[hi,Option.map_some,bE,Prod.mk.injEq] at he;refine run_buildSlice w T e 4 _ _ i .nilFunc bn hi he.2 (by rw[he.1];decide) (by rw[he.1];decide) ?_
  have hz:(((Array.range (4*i.size)).map fun x=>(Value.nilFunc).cells[x%(Value.nilFunc).cells.size]!)).size=4:=by simp[he.1]
  have:=P_ 1 [(0,v0),(1,v1),(2,v2),(3,v3)] 0 ((Array.range (4*i.size)).map fun x=>(Value.nilFunc).cells[x%(Value.nilFunc).cells.size]!)
   (fun j hj=>by
    match j,hj with
    |0,_=>rfl
    |1,_=>rfl
    |2,_=>rfl
    |3,_=>rfl) (fun p hp=>by
     have:p.2∈[v0,v1,v2,v3]:=by
      simp only[bO,List.not_mem_nil,or_false] at hp ⊢;rcases hp with rfl|rfl|rfl|rfl<;>simp
     rw[h _ this];rfl) (by rw[hz];simp)
  rw[he.1] at this hz ⊢;simp only;rw[this];have hc:([(0,v0),(1,v1),(2,v2),(3,v3)].flatMap fun p:Nat×Value=>p.2.cells.toList)=[v0,v1,v2,v3]:=by
   simp only[List.flatMap_cons,List.flatMap_nil,h v0 (by simp),h v1 (by simp),h v2 (by simp),h v3 (by simp)]
   rfl
  rw[hc];congr 2
  unfold bY;rw[Nat.zero_mul,List.take_zero,List.nil_append,Nat.zero_add,List.drop_eq_nil_of_le (by simp),List.append_nil]
theorem ag1(H:aT P C.toCtx){nt:Nat}{os:List aR}{T e:TypeId}{m0 m1 m2 m3 m4 m5 n0 n1 n2 q0 r0 r1 r2:Oper}{i1 i2 i3 i4:Nat}{BB r8 E:Code}{p3 pB p8 pE:Nat}{g0 g1 g2 g3:FuncId}{c0 c1 c2 c3:List aK->Option OH}{mk:Int->aG os}
  (K:aoz P C nt os T e m0 m1 m2 m3 m4 m5 n0 n1 n2 q0 r0 r1 r2 i3 BB r8 E p3 pB p8 pE g0 g1 g2 g3 c0 c1 c2 c3 mk) {g:(lh nt).J->Option (aG os)} (hg:∀ps,g (nj nt ps)=rq ps mk [c0,c1,c2,c3]) {code:Code}
  (tZ:code=.seq (.region i1 #[m0,m1,m2,m3,m4,m5] false) (.seq (.seq (.region i2 #[n0,n1,n2] false) (.block 0 (.loop (.seq (.region i3 #[q0] false) (.seq (.cond (.tmp 15) .skip (.exit 0)) (.seq (.block 1 (.seq (.region i4 #[r0,r1,r2] false) BB)) r8)))))) E)):
  aV P code (aX (lh nt) os g):=by
 intro rn hn U Z X st y hy F M w ds S;simp only[aX] at hy y ⊢;obtain⟨dS,MO,Er⟩:=Option.bind_eq_some_iff.1 hy;obtain⟨ps,o9⟩:∃ps,dS=nj nt ps:=⟨dS.2.1.1,rfl⟩;subst o9;rw[hg] at Er;obtain⟨mV,pv,_⟩:=Shape.gM S MO;obtain⟨lD,yb⟩:∃lD,lD=cJ code:=⟨_,rfl⟩;have jR:=fun t (ay:t∈[1,12,h'])=>wU K.wr ay
 simp only[bp,not_or] at jR;have En:∀t,t∉lD->(t∉m0.dst.toList/\t∉m1.dst.toList/\t∉m2.dst.toList/\t∉m3.dst.toList)/\(t≠11/\t≠3/\t≠12/\t≠13/\t≠14/\t≠16/\t≠17/\t≠5)/\(t∉q0.dst.toList/\t∉cJ BB/\t∉cJ r8/\t∉cJ E):=by
  intro t ay;rw[yb,tZ] at ay;simp only[cJ,i_,K.dst.1,K.dst.2.1,K.dst.2.2.1,K.dst.2.2.2.1,K.dst.2.2.2.2.1,K.dst.2.2.2.2.2.1,K.dst.2.2.2.2.2.2.1,K.dst.2.2.2.2.2.2.2,bp,not_or,Option.toList_some,bO,List.not_mem_nil,or_false,List.append_nil,List.nil_append,List.append_assoc] at ay;obtain⟨fy,eC,gn,jY,aeb,aBm,aBl,N3,aBk,aBj,axj,axi,axh,axg,axf,axe⟩:=ay;exact⟨⟨fy,eC,gn,jY⟩,⟨aeb,aBm,aBl,N3,aBk,axj,axi,axh⟩,aBj,axg,axf,axe⟩
 have tN:(P.info? e).map (fun i=>(i.size,i.zero))=some (1,some .nilFunc):=by
  have:=H.tt e;rw[K.Mw] at this;obtain⟨_,_,_,h⟩:=this;exact h.2.2.2
 have kJ:∀{a':World} {eb:List Nat} {dp:Nat->Prop} {Nw:List Deferred} {ir:Array Value} {W1:List Nat} {e3:ao} {a:Act} {w2:World},h'∉W1->jg a' eb dp->eU a' eb dp Nw ir W1 e3 a w2->
   a.defers=Nw/\∃F,az a' eb dp F e3 a.tmps w2/\∀t,t∉W1->a.tmps.getD t undef=ir.getD t undef:=by
  rintro a' eb dp Nw ir W1 e3 a w2 hm hG ⟨E0,Of,lC,F,ef,bx,fA,⟨d1,d2⟩,aBQ,yA⟩;have:=d2 hm;subst this;exact⟨d1,F,(az.B5 bx hG aBQ).shrink bx.x,yA⟩
 rw[tZ];refine gJ.of (n:=0) (wpIn_seq (wpIn_region ?_));obtain⟨aB8,aB7,aB6,OE,OD,aB5,Fe,aB4,Fc,Fb,EX,aBc⟩:=K.aY;obtain⟨aeN,aeM,aeL,OF,Ff,aeK,ad9,ad8⟩:=K.dst;rw[show List.range (#[m0,m1,m2,m3,m4,m5]:Array Oper).size=[0,1,2,3,4,5] from rfl]
 simp only[wpOpsIn,List.getElem?_toArray,List.getElem?_cons_zero,List.getElem?_cons_succ,Region.wanted,aB8,aB7,aB6,OE,OD,aB5,if_true];refine ou pv H (K.aF ps) fun aDx lg aDu E0 yH vj sB=>?_
 refine ou vj H yH fun aDw abh N5 u' yG yO sA=>?_
 refine ou yO H yG fun sc awM aDt aBn aBI pu yE=>?_
 refine ou pu H aBI fun aBr awL mg wd E7 E' yD=>?_
 split at E7;case h_2=>cases E7
 rename_i a aeA b cb c kU d aez aCq mn vg sE qA azq;obtain⟨aDp,ax8,hye⟩:=Option.map_eq_some_iff.1 E7;simp only[Prod.mk.injEq,List.cons.injEq,and_true] at hye;obtain⟨⟨⟨rfl,rfl⟩,⟨rfl,rfl⟩,⟨rfl,rfl⟩,rfl,rfl⟩,rfl⟩:=hye;obtain⟨xE,nm,ayn⟩:=Shape.gM E' ax8;have Lp:xE 1=awL 1:=ayn 1 _ ci;have ayo:look ((lh nt).st (nj nt ps)).sites 1=some (.box 0 [.d (.sl .pack ps)]):=rfl;obtain⟨gV,Ew⟩:∃gV,gV=mg.getD 1 undef:=⟨_,rfl⟩;have uN:xE 1=gV:=by
  have:=nm.c5 1;have pa:((lh nt).st (nj nt ps)).get 1=ch (.ptr 1 0 0):=rfl;rw[pa] at this;obtain⟨b,hb,hr⟩:=this;rw[Ew,hb];exact Ref.at hr ayo rfl
 have Dl:∀{t:Nat} {Oe:FuncId},aBr.get t=.av (.aq (.clo Oe [(1,0)]))->mg.getD t undef=.func (.func Oe) #[] #[gV]:=by
  intro t Oe h;have:=E'.c5 t;rw[h] at this;obtain⟨vs,h1,h2,h3⟩:=this;match vs,h2 with
  |[v],_=>
   have aF:=Ref.at (h3 0 (by simp) (by simp)) azq rfl
   simp only[List.getElem_cons_zero] at aF;rw[h1,aF,<-Lp,uN]
 have EZ:=Dl mn;have NW:=Dl vg;have z9:=Dl sE;have abt:=Dl qA;have aby:mg.size=nt:=nm.nt;have Li:=K.Li;obtain⟨bx,hB⟩:∃bx,bx=wd.heap.size:=⟨_,rfl⟩;obtain⟨eK,wZ⟩:∃eK:Array Value,eK=#[.func (.func a) #[] #[gV],.func (.func b) #[] #[gV],.func (.func c) #[] #[gV],.func (.func d) #[] #[gV]]:=⟨_,rfl⟩;have atE:(execOp (Act.eval ⟨mg,[]⟩) m4).run P wd=.ok (.value (.slice (some ⟨bx,0,none⟩) 4 4)) (wd.alloc (.cells eK e)):=by
  have aBu:Act.eval ⟨mg,[]⟩ (.tmp 7)=_:=EZ;have aBt:Act.eval ⟨mg,[]⟩ (.tmp 8)=_:=NW;have aBs:Act.eval ⟨mg,[]⟩ (.tmp 9)=_:=z9;have axI:Act.eval ⟨mg,[]⟩ (.tmp 10)=_:=abt;have:=akI (P:=P) K.rS tN (v0:=.func (.func a) #[] #[gV]) (v1:=.func (.func b) #[] #[gV]) (v2:=.func (.func c) #[] #[gV]) (v3:=.func (.func d) #[] #[gV]) (fun v hv=>by
   simp only[bO,List.not_mem_nil,or_false] at hv;rcases hv with rfl|rfl|rfl|rfl<;>rfl) wd
  unfold execOp;simp only[K.N7.1,List.map_toArray,List.map_cons,List.map_nil,aBu,aBt,aBs,axI,Sem.run_bind,this,Result.andThen_ok,Sem.run_pure,hB,wZ]
 refine pP atE ?_
 have u5:(cP mg m4.dst (.slice (some ⟨bx,0,none⟩) 4 4)).getD 11 undef=.slice (some ⟨bx,0,none⟩) 4 4:=by rw[aeN];exact pC (by omega)
 refine pP (run_move (.inr K.N7.2)) ?_
 have auq:Act.eval ⟨cP mg m4.dst (.slice (some ⟨bx,0,none⟩) 4 4),[]⟩ (.tmp 11)=.slice (some ⟨bx,0,none⟩) 4 4:=u5;rw[auq];obtain⟨t3,Eu⟩:∃t3,t3=cP (cP mg m4.dst (.slice (some ⟨bx,0,none⟩) 4 4)) m5.dst (.slice (some ⟨bx,0,none⟩) 4 4):=⟨_,rfl⟩;rw[<-Eu];have Eg:t3.size=nt:=by rw[Eu,kv,kv,aby]
 have axv:t3.getD 3 undef=.slice (some ⟨bx,0,none⟩) 4 4:=by rw[Eu,aeM];exact pC (by rw[kv];omega)
 have bS:∀t,t≠11->t≠3->t3.getD t undef=mg.getD t undef:=fun t h1 h2=>by
  rw[Eu,aeN,aeM,jF (by simpa using fun e=>h2 e),jF (by simpa using fun e=>h1 e)]
 obtain⟨wf,rX⟩:∃wf,wf=wd.alloc (.cells eK e):=⟨_,rfl⟩;rw[<-rX];have aC0:wf.heap.size=wd.heap.size+1:=by rw[rX];simp
 have Xk:∀b,b<wd.heap.size->wf.heap[b]? =wd.heap[b]? :=fun b hb=>by rw[rX];exact RowKit.Below.heap_alloc _ _ _ hb
 have aza:wf.heap[bx]? =some (.cells eK e):=by rw[rX,hB];exact World.alloc_heap_new wd _
 have adk:=nm.jump (w':=wf) (fun b _ hb=>Xk b hb) (by omega) (by
  refine⟨by rw[rX];exact nm.frame.os,by rw[rX];exact nm.frame.tape,by rw[rX];exact nm.frame.output,by have:=nm.frame.size;omega,fun b hb hn=>?_⟩
  have:=nm.frame.size;rw[Xk b (by omega)];exact nm.frame.block b hb hn)
 obtain⟨cO,ng⟩:∃cO:Nat->Prop,cO=fun b=>X b\/(wd.heap.size<=b/\b<wf.heap.size):=⟨_,rfl⟩
 rw[<-ng] at adk;have aBi:cO bx:=by rw[ng];exact .inr ⟨by omega,by omega⟩
 have No:∀b,X b->cO b:=fun b hb=>by rw[ng];exact .inl hb
 have NF:az U Z cO xE ((lh nt).st (nj nt ps)) t3 wf:=adk.K7 (fun t=>by
  by_cases azf:t=11
  ·exact .inr (IH (by omega))
  ·by_cases h3:t=3
   ·exact .inr (IH (by omega))
   ·exact .inl (bS t azf h3)) (by rw[Eg,aby])
 obtain⟨fi,Z5⟩:∃fi,fi=jj xE ((lh nt).st (nj nt ps)).sites:=⟨_,rfl⟩;have K':∀b,b∈fi->¬cO b/\(b∈Z\/U.heap.size<=b):=fun b hb=>by
  rw[Z5] at hb;obtain⟨o,q1,q2⟩:=ov.1 hb;exact NF.cF o b q1 q2
 have EM:az wf fi cO xE ((lh nt).st (nj nt ps)) t3 wf:=NF.Co (fun o b q1 q2=>by rw[Z5];exact ov.2 ⟨o,q1,q2⟩) fun b hb=>(K' b hb).2
 have OI:iM U Z X wf fi cO:=by
  have:=NF.base fun b hb=>(K' b hb).2
  exact⟨this.cZ,this.cF,No⟩
 have aBe:bx∉fi:=fun h=>(K' bx h).1 aBi
 refine wpIn_seq (wpIn_seq (wpIn_region ?_));rw[show List.range (#[n0,n1,n2]:Array Oper).size=[0,1,2] from rfl]
 simp only[wpOpsIn,List.getElem?_toArray,List.getElem?_cons_zero,List.getElem?_cons_succ,Region.wanted,Fe,aB4,Fc,if_true];refine pP (run_move (.inl K.on.1)) ?_
 have azo:Act.eval ⟨t3,[]⟩ (.tmp 3)=.slice (some ⟨bx,0,none⟩) 4 4:=axv;rw[azo];obtain⟨t4,x3⟩:∃t4,t4=cP t3 n0.dst (.slice (some ⟨bx,0,none⟩) 4 4):=⟨_,rfl⟩;rw[<-x3];have XR:t4.getD 12 undef=.slice (some ⟨bx,0,none⟩) 4 4:=by rw[x3,aeL];exact pC (by omega)
 have atB:(execOp (Act.eval ⟨t4,[]⟩) n1).run P wf=.ok (.value (.int .i64 4)) wf:=by
  have q:Act.eval ⟨t4,[]⟩ (.tmp 12)=.slice (some ⟨bx,0,none⟩) 4 4:=XR;unfold execOp;simp only[K.on.2.1,resolve,invoke,builtin,Sem.run_bind,Sem.run_pure,Result.andThen_ok,List.map_toArray,List.map_cons,List.map_nil,q];simp[Builtin.len_,run_underlying K.rS,goInt]
 refine pP atB ?_
 refine pP (run_move (.inl K.on.2.2)) ?_
 have azp:∀(tt:Array Value),Act.eval ⟨tt,[]⟩ (.const (.int .i64 0))=.int .i64 0:=fun _=>rfl
 rw[azp];obtain⟨t5,uJ⟩:∃t5,t5=cP (cP t4 n1.dst (.int .i64 4)) n2.dst (.int .i64 0):=⟨_,rfl⟩;rw[<-uJ];have axA:t5.size=nt:=by rw[uJ,kv,kv,x3,kv,Eg]
 have aC1:t4.size=nt:=by rw[x3,kv,Eg]
 have gq:∀t,t≠12->t≠13->t≠14->t5.getD t undef=t3.getD t undef:=fun t h1 h2 h3=>by
  rw[uJ,OF,Ff,jF (by simpa using fun e=>h3 e),jF (by simpa using fun e=>h2 e),x3,aeL,jF (by simpa using fun e=>h1 e)]
 have atv:t5.getD 12 undef=.slice (some ⟨bx,0,none⟩) 4 4:=by rw[uJ,OF,Ff,jF (by simp),jF (by simp)];exact XR
 have atu:t5.getD 13 undef=.int .i64 4:=by rw[uJ,OF,Ff,jF (by simp)];exact pC (by omega)
 have att:t5.getD 14 undef=.int .i64 0:=by rw[uJ,Ff];exact pC (by rw[kv];omega)
 have v51:t5.getD 1 undef=gV:=by rw[gq 1 (by omega) (by omega) (by omega),bS 1 (by omega) (by omega),Ew]
 have Ov:∃F,az wf fi cO F ((gR nt).st (hZ nt ps 4 0)) t5 wf:=by
  have A:=EM.K7 (ca:=t5) (fun t=>by
   by_cases h1:t=1
   ·subst h1;exact .inl (gq 1 (by omega) (by omega) (by omega))
   ·exact .inr (IH h1)) (by rw[axA,Eg])
  have OL:=(A.nC (t:=13) (v:=one (.int .i64 4)) (by rw[atu];exact .int _ _)).nC (t:=14) (v:=one (.int .i64 0)) (by rw[att];exact .int _ _)
  obtain⟨F,OK,_⟩:=Shape.gM OL (K.xk ps 4 0);exact⟨F,OK⟩
 have axV:∀t,t∉lD->t5.getD t undef=M.getD t undef:=fun t ay=>by
  obtain⟨⟨dS,cT,dC,dW⟩,⟨iw,e_,fk,N0,aBh,_⟩,_⟩:=En t ay;rw[gq t fk N0 aBh,bS t iw e_,yD t dW,yE t dC,sA t cT,sB t dS]
 obtain⟨cs,hcs⟩:∃cs,cs=[c0,c1,c2,c3]:=⟨_,rfl⟩;obtain⟨sL,si⟩:∃sL:Nat->Array Value->World->Prop,∀i t w,sL i t w <-> (∃F,az wf fi cO F ((gR nt).st (hZ nt ps 4 i)) t w)/\t.getD 12 undef=.slice (some ⟨bx,0,none⟩) 4 4/\t.getD 1 undef=gV/\(∀u,u∉lD->t.getD u undef=M.getD u undef):=
  ⟨_,fun _ _ _=>Iff.rfl⟩
 have Nu:∀{i:Nat} {t:Array Value} {w:World},sL i t w->t.getD 14 undef=.int .i64 i:=fun h=>by
  obtain⟨⟨F,S⟩,_⟩:=(si _ _ _).1 h;exact R_ S (t:=14) rfl
 have gone:∀{st:ao} {t:Array Value} {w:World},(∃F,az wf fi cO F st t w)->(∀u,u∉lD->t.getD u undef=M.getD u undef)->eU U Z X ds M lD st ⟨t,ds⟩ w:=by
  rintro st t w ⟨F,S⟩ yA;exact⟨wf,fi,cO,F,[],OI,Marks.nil _ _ _ _,⟨rfl,fun _=>rfl⟩,S,yA⟩
 have ending:∀{i:Nat} {t:Array Value} {w:World},sL i t w->mk 0=y->gJ rn P E (fB U Z X ds M lD (ma os y)) ⟨t,ds⟩ w:=by
  intro i t w h hm;obtain⟨⟨F,S⟩,_,_,yA⟩:=(si _ _ _).1 h;refine j7 H E pE (.inr K.acs) K.k9.2.2.2 wf fi cO _ F t w ds (hY os) _ (K.hE ps 4 i) S ?_
  intro D e a w2 hk hl;rw[<-hm];have hl:=vI hk hl;have:=fB.trans (W1:=lD) OI (Marks.nil U wf fi cO) (fun _=>rfl) yA hl
  exact this.mono fun t ay=>by
   rcases bp.1 ay with h|h
   ·exact h
   ·rw[yb,tZ];simp only[cJ,bp];exact .inr (.inr h)
 refine wpIn_block (wpIn_loop (I:=fun a w=>∃(i:Nat) (t:Array Value),a=⟨t,ds⟩/\i<=4/\sL i t w/\rq ps mk (cs.drop i)=some y)
  (μ:=fun a w=>match a.tmps.getD 14 undef with|.int _ i=>(4-i).toNat|_=>0) ⟨0,t5,rfl,by omega,(si _ _ _).2 ⟨Ov,atv,v51,axV⟩,by rw[hcs];exact Er⟩ ?_)
 rintro yM pm ⟨i,t6,rfl,Nc,cp,na⟩;have MM:(match t6.getD 14 undef with|.int _ i=>(4-i).toNat|_=>0)=4-i:=by rw[Nu cp];simp only;omega
 simp only[MM];obtain⟨⟨awN,Ou⟩,ats,axu,iT⟩:=(si _ _ _).1 cp;refine wpIn_seq (j7 H (.region i3 #[q0] false) p3 (.inr rfl) K.k9.1 wf fi cO _ awN t6 pm ds (MJ nt) _ (K.hlt ps 4 i) Ou ?_);intro N9 azu yL jZ ln qu;cases N9 with
 |exit id st=>cases ln
 |ret st=>cases ln
 |norm axC=>
 cases azu<;>try exact qu.elim
 have axS:h'∉cJ (.region i3 #[q0] false):=by
  show h'∉i_ [q0];simp only[i_,List.append_nil];exact(jR h' (by simp)).1
 obtain⟨d7,aCV,Fa,MI⟩:=kJ axS EM.ft qu;obtain⟨t7,qB⟩:=yL;have d7:qB=ds:=d7;subst d7;simp only[MJ] at ln;split at ln;case h_2=>cases ln
 rename_i oi uW;obtain⟨aCW,atP,ZV⟩:=Option.map_eq_some_iff.1 ln;simp only[Prod.mk.injEq] at ZV;obtain⟨rfl,rfl⟩:=ZV;have atr:=Gf Fa uW;obtain⟨ar9,azW,_⟩:=Shape.gM Fa atP;have axH:(12:Nat)∉cJ (.region i3 #[q0] false):=by
  show 12∉i_ [q0];simp only[i_,List.append_nil];exact(jR 12 (by simp)).1
 have q1:(1:Nat)∉cJ (.region i3 #[q0] false):=by
  show 1∉i_ [q0];simp only[i_,List.append_nil];exact(jR 1 (by simp)).1
 have iA:sL i t7 jZ:=(si _ _ _).2 ⟨⟨ar9,azW⟩,(MI 12 axH).trans ats,(MI 1 q1).trans axu,fun u hu=>(MI u (by
  show u∉i_ [q0];simp only[i_,List.append_nil];exact(En u hu).2.2.1)).trans (iT u hu)⟩
 have DL:Act.eval ⟨t7,qB⟩ (.tmp 15)=.bool (decide ((i:Int)<4)):=atr;by_cases hlt:(i:Int)<4;case neg=>
  rw[decide_eq_false hlt] at DL;refine wpIn_seq (wpIn_cond DL (wpIn_exit ?_));have hi:i=4:=by omega
  subst hi;have hm:mk 0=y:=by rw[hcs] at na;simpa[rq] using na
  have:=ending iA hm;rw[yb,tZ] at this;exact this
 rw[decide_eq_true hlt] at DL;refine wpIn_seq (wpIn_cond DL (wpIn_skip ?_));refine wpIn_seq (wpIn_block (wpIn_seq (wpIn_region ?_)));rw[show List.range (#[r0,r1,r2]:Array Oper).size=[0,1,2] from rfl]
 simp only[wpOpsIn,List.getElem?_toArray,List.getElem?_cons_zero,List.getElem?_cons_succ,Region.wanted,Fb,EX,aBc,if_true];obtain⟨⟨xF,mq⟩,XQ,abu,og⟩:=(si _ _ _).1 iA;have atq:=Nu iA;have axz:(sizeOf e).run P jZ=.ok 1 jZ:=by
  cases aC:P.info? e with
  |none=>rw[aC] at tN;cases tN
  |some inf=>
   rw[aC] at tN;simp only[Option.map_some,bE,Prod.mk.injEq] at tN;simp[sizeOf,lG aC,tN.1]
 have atD:(execOp (Act.eval ⟨t7,[]⟩) r0).run P jZ=.ok (.value (.pointer (some ⟨bx,i,none⟩))) jZ:=by
  have fx:Act.eval ⟨t7,[]⟩ (.tmp 12)=.slice (some ⟨bx,0,none⟩) 4 4:=XQ;have z2:Act.eval ⟨t7,[]⟩ (.tmp 14)=.int .i64 i:=atq;unfold execOp;simp[K.Ei.1,fx,z2,Instr.indexAt,asIntOf,run_underlying K.rS,hlt,axz,hK];intro h;omega
 refine pP atD ?_
 obtain⟨t8,uI⟩:∃t8,t8=cP t7 r0.dst (.pointer (some ⟨bx,i,none⟩)):=⟨_,rfl⟩;rw[<-uI];have abz:t7.size=nt:=mq.nt;have atp:t8.getD 16 undef=.pointer (some ⟨bx,i,none⟩):=by rw[uI,aeK];exact pC (by omega)
 have azb:jZ.heap[bx]? =some (.cells eK e):=by
  rw[mq.frame.block bx (by omega) aBe];exact aza
 obtain⟨lA,E8,ayK,ayf,hci⟩:∃lA E8,(lA,E8)∈[(a,c0),(b,c1),(c,c2),(d,c3)]/\eK[i]? =some (.func (.func lA) #[] #[gV])/\∃Ol,cs.drop i=E8::Ol/\Ol=cs.drop (i+1):=by
  have:i=0\/i=1\/i=2\/i=3:=by omega
  rcases this with rfl|rfl|rfl|rfl
  ·exact⟨a,c0,by simp,by rw[wZ];rfl,_,by rw[hcs];rfl,by rw[hcs];rfl⟩
  ·exact⟨b,c1,by simp,by rw[wZ];rfl,_,by rw[hcs];rfl,by rw[hcs];rfl⟩
  ·exact⟨c,c2,by simp,by rw[wZ];rfl,_,by rw[hcs];rfl,by rw[hcs];rfl⟩
  ·exact⟨d,c3,by simp,by rw[wZ];rfl,_,by rw[hcs];rfl,by rw[hcs];rfl⟩
 obtain⟨Ol,w1,ayP⟩:=hci;have atC:(execOp (Act.eval ⟨t8,[]⟩) r1).run P jZ=.ok (.value (.func (.func lA) #[] #[gV])) jZ:=by
  have fx:Act.eval ⟨t8,[]⟩ (.tmp 16)=.pointer (some ⟨bx,i,none⟩):=atp;have hl:=vn (P:=P) (w:=jZ) (T:=e) (ti:=.func) (by have:=H.tt e;rw[K.Mw] at this;exact this) (by intro h;cases h) ⟨bx,i,none⟩ [.func (.func lA) #[] #[gV]] rfl (fun j u hu=>by
   match j,hu with
   |0,hu=>
    cases hu;rw[hK];simp[World.cell?,azb,ayf])
  unfold execOp;simp only[K.Ei.2.1,Instr.loadAt,Instr.sureAddr,fx,Sem.run_bind,Sem.run_pure,Result.andThen_ok,hl];rfl
 refine pP atC ?_
 refine pP (run_move (.inr K.Ei.2.2)) ?_
 obtain⟨t9,x2⟩:∃t9,t9=cP t8 r1.dst (.func (.func lA) #[] #[gV]):=⟨_,rfl⟩;rw[<-x2];have aup:Act.eval ⟨t9,[]⟩ (.tmp 17)=.func (.func lA) #[] #[gV]:=by
  show t9.getD 17 undef=_;rw[x2,ad9];exact pC (by rw[uI,kv];omega)
 rw[aup];obtain⟨t10,DH⟩:∃t10,t10=cP t9 r2.dst (.func (.func lA) #[] #[gV]):=⟨_,rfl⟩;rw[<-DH];have atx:t10.size=nt:=by rw[DH,kv,x2,kv,uI,kv,abz]
 have Em:∀u,u≠16->u≠17->u≠5->t10.getD u undef=t7.getD u undef:=fun u h1 h2 h3=>by
  rw[DH,ad8,jF (by simpa using fun e=>h3 e),x2,ad9,jF (by simpa using fun e=>h2 e),uI,aeK,jF (by simpa using fun e=>h1 e)]
 have v105:t10.getD 5 undef=.func (.func lA) #[] #[gV]:=by rw[DH,ad8];exact pC (by rw[x2,kv,uI,kv];omega)
 have oa:az wf fi cO xF ((gR nt).st (hZ nt ps 4 i)) t10 jZ:=mq.K7 (fun u=>by
  by_cases h1:u=16
  ·exact .inr (IF (by omega) (by omega) (by omega))
  ·by_cases h2:u=17
   ·exact .inr (IF (by omega) (by omega) (by omega))
   ·by_cases h3:u=5
    ·exact .inr (IF (by omega) (by omega) (by omega))
    ·exact .inl (Em u h1 h2 h3)) (by rw[atx,abz])
 have u6:=oa.nC (t:=5) (v:=ch (.clo lA [(1,0)])) (by
  rw[v105];refine⟨[gV],rfl,rfl,fun j hj ko=>?_⟩
  match j,hj,ko with
  |0,_,_=>
   have:=mq.c5 1;have pa:((gR nt).st (hZ nt ps 4 i)).get 1=ch (.ptr 1 0 0):=rfl;rw[pa] at this;obtain⟨bQ,ew,dq⟩:=this;refine⟨.box 0 [.d (.sl .pack ps)],rfl,Nat.le_refl _,fun _=>?_⟩
   have h2:=Ref.at dq (ai:=.box 0 [.d (.sl .pack ps)]) rfl rfl;show gV=xF 1;rw[h2,<-ew,abu])
 rw[w1] at na;simp only[rq] at na;obtain⟨aek,ayq,na⟩:=Option.bind_eq_some_iff.1 na;have ye:=K.hB (lA,E8) ayK ps 4 i;simp only[ayq,Y] at ye;have ZR:∀u,u∉lD->t10.getD u undef=M.getD u undef:=fun u hu=>by
  obtain⟨_,⟨_,_,_,_,_,axb,axa,e_⟩,_⟩:=En u hu;rw[Em u axb axa e_,og u hu]
 have aoT:∀t,t∈cJ BB->t∈lD:=fun t ay=>by
  rw[yb,tZ];simp only[cJ,bp];exact .inr (.inl (.inr (.inr (.inr (.inl (.inr ay))))))
 cases hne:(aek.1.1 !=0) with
 |true=>
  simp only[hne,ad] at ye na;refine j7 H BB pB (.inr K.MD) K.k9.2.1 wf fi cO _ xF t10 jZ qB (ru nt os) _ ye u6 ?_
  intro D cU a12 Mu hk hl;have o':=fB.trans (W1:=lD) OI (Marks.nil U wf fi cO) (fun _=>rfl) ZR hl
  have EA:fB U Z X qB M lD D cU a12 Mu:=o'.mono fun t ay=>by
   rcases bp.1 ay with h|h
   ·exact h
   ·exact aoT t h
  have hy:mk aek.1.1=y:=by simpa using na
  cases D with
  |norm xb=>
   obtain⟨z,_,hz⟩:=Option.map_eq_some_iff.1 hk;cases hz
  |exit id xb=>
   obtain⟨dT,fh,hz⟩:=Option.map_eq_some_iff.1 hk;rw[K.hos] at fh;cases fh
  |ret xb=>
   obtain⟨dT,fh,hz⟩:=Option.map_eq_some_iff.1 hk;cases hz;have:=vI fh EA;rw[hy,yb,tZ] at this;cases cU<;>try exact EA.elim
   exact this
 |false=>
  simp only[hne,ak] at ye na;refine j7 H BB pB (.inr K.MD) K.k9.2.1 wf fi cO _ xF t10 jZ qB (ru nt os) _ ye u6 ?_
  intro D cU a12 Mu hk hl;cases D with
  |exit id xb=>
   obtain⟨z,_,hz⟩:=Option.map_eq_some_iff.1 hk;cases hz
  |ret xb=>
   obtain⟨z,_,hz⟩:=Option.map_eq_some_iff.1 hk;cases hz
  |norm xb=>
   cases cU<;>try exact hl.elim
   obtain⟨z,hz,ax7⟩:=Option.map_eq_some_iff.1 hk;cases ax7;obtain⟨d12,aCA,sq,Lm⟩:=kJ (jR h' (by simp)).2.1 EM.ft hl
   obtain⟨t12,LJ⟩:=a12;have d12:LJ=qB:=d12;subst d12;obtain⟨asb,ys,_⟩:=Shape.gM sq hz;refine j7 H r8 p8 (.inr K.acu) K.k9.2.2.1 wf fi cO _ asb t12 Mu LJ (W_ nt) _ (K.h8 ps 4 i) ys ?_
   intro Ej azx azK axo Lz Z3;cases Ej with
   |exit id st=>cases Lz
   |ret st=>cases Lz
   |norm aCC=>
   cases azx<;>try exact Z3.elim
   obtain⟨d14,aCz,qE,Ll⟩:=kJ (jR h' (by simp)).2.2.1 EM.ft Z3
   obtain⟨t14,auv⟩:=azK;have d14:auv=LJ:=d14;subst d14;obtain⟨asa,yr,_⟩:=Shape.gM qE Lz;have arC:IntKind.i64.wrap ((i:Int)+1)=((i+1:Nat):Int):=by rw[wrap_small (by omega) (by omega)];omega
   rw[arC] at yr;have aes:sL (i+1) t14 axo:=(si _ _ _).2 ⟨⟨asa,yr⟩,by
    rw[Ll 12 (jR 12 (by simp)).2.2.1,Lm 12 (jR 12 (by simp)).2.1,Em 12 (by omega) (by omega) (by omega),XQ],by
    rw[Ll 1 (jR 1 (by simp)).2.2.1,Lm 1 (jR 1 (by simp)).2.1,Em 1 (by omega) (by omega) (by omega),abu],fun u hu=>by
    obtain⟨_,_,_,fx,z2,_⟩:=En u hu;rw[Ll u z2,Lm u fx,ZR u hu]⟩
   refine⟨⟨i+1,t14,rfl,by omega,aes,by rw[ayP] at na;exact na⟩,?_⟩
   rw[Nu aes];simp only;omega
end
theorem sN{P:Program}{f:FuncId}{vs:Array Value}{w:World}{rv:Value}{Q:World->Prop}{R:Value->World->Prop}(he:(callFunc f vs).run P w=.ok (.enter f vs) w)
  (h:Calls P f vs w fun e w'=>e=.returned rv/\Q w') (hR:∀w',Q w'->R rv w'):Enters P f vs w R:=
 .inl ⟨he,h.mono fun e w' h=>by obtain⟨rfl,h⟩:=h;exact hR w' h⟩
theorem ajG{P:Program}{f:FuncId}{T e:TypeId}{t:bi}{bt:Nat}(aF:bg t=4)(sg:0<bt)(R:amk P f T e bt)(he:∀vs w,(callFunc f vs).run P w=.ok (.enter f vs) w)(ay:P.underlying T=some (.slice e))
  (hinfo:(P.info? e).map (fun i=>(i.zero.map (·.cells.size),i.size,i.bytes))=some (some 4,4,bt)):aE P f (Jg t bt):=by
 obtain⟨i0,hi0,hzz⟩:=Option.map_eq_some_iff.1 hinfo;simp only[Prod.mk.injEq] at hzz;obtain⟨hz0,hzs,hzb⟩:=hzz;obtain⟨z,hz,hzc⟩:=Option.map_eq_some_iff.1 hz0;intro as;unfold Jg;cases aC:Bt t as with
 |none=>intro y hy;cases hy
 |some q=>
  obtain⟨xs,i,vs⟩:=q;have has:=agR aC;subst has;intro y hy w X eK dP bU lm EH hold _;have hy:uk bt xs i vs=some y:=hy;unfold uk at hy;split at hy;case isFalse=>cases hy
  rename_i hc;obtain⟨hc0,hc1,sf,ac1⟩:=hc;cases hy;obtain⟨k,rfl⟩:=Int.eq_ofNat_of_zero_le hc0;simp only[Int.ofNat_eq_natCast,Int.toNat_natCast] at*;have hk:k<=xs.length:=by omega
  match eK,bU with
  |[v1,v2,v3],⟨b1,q1,e1,h1,b2,q2,e2,h2,b3,ec,bz,h3,dn⟩=>
   obtain⟨fx,t1,cs,o1,r1⟩:=h1;obtain⟨z2,r2⟩:=h2;obtain⟨z3,t3,kO,o3,dD⟩:=h3;rw[aF] at o1 o3;subst fx z2 z3 dn;simp only[List.append_nil,List.nil_append] at bz e2;subst bz;subst e2;subst e1;have axF:=iW r2;subst axF;have fh:ep [Arg.av (b4.aq (aU.fresh t xs)),Arg.av (b4.aq (aU.d (.int .i64 (k:Int)))),Arg.av (b4.aq (aU.fresh t vs))] [v1,.int .i64 (k:Int),v3]=[]:=by
    cases v1<;>cases v3<;>rfl
   show Enters P f #[v1,.int .i64 (k:Int),v3] w _;have uP:cs.length=xs.length*4:=o1.1;have c8:kO.length=vs.length*4:=o3.1;have h63:xs.length+vs.length<=9223372036854775807:=by simp only[maxLen] at ac1;omega
   have hroom:(xs.length+vs.length)*bt<=140737488355328:=sf;by_cases hm:vs.length=0
   ·-- nothing aei lay in
    have hvs:vs=[]:=fP hm;subst hvs;have atT:kO=[]:=fP (by simpa using c8)
    subst atT;have fin:=
     Bs aF (w:=w) (w':=w) hk r1 dD ⟨t1,by simp only[List.append_nil,List.take_append_drop];exact o1⟩ (Fr.refl _ _) hold
      (fun b hb=>by
       have:b∈(bZ v1).toList++(bZ v3).toList:=bp.2 (.inl (by rw[hb];simp))
       refine⟨?_,.inl this⟩;rcases s6 (pG aF) o1 with⟨h,_,_⟩|⟨g,c,cur,h,hg,_⟩
       ·rw[h] at hb;cases hb
       ·rw[h] at hb;cases hb;exact(Array.getElem?_eq_some_iff.1 hg).1) EH _ _ fh
    have m_:∃xa vc,v3=.slice xa 0 vc:=by
     rcases s6 (pG aF) o3 with⟨h,_,_⟩|⟨g,c,cur,h,_⟩
     ·exact⟨_,_,h⟩
     ·exact⟨_,_,h⟩
    obtain⟨xa,vc,m_⟩:=m_;rcases s6 (pG aF) o1 with⟨h,hn,_⟩|⟨g,c,cur,h,hg,hnc,hcm,_⟩
    ·have qv:k=0:=by omega
     subst qv;subst h m_;exact sN (he _ _) (R.ars xa vc w) (fun w' o6=>by rw[o6];exact fin)
    ·subst h m_;exact sN (he _ _) (R.arq g xs.length c k xa vc w hk hnc (by simp only[maxLen] at hcm;omega)) (fun w' o6=>by rw[o6];exact fin)
   ·have uO:0<vs.length:=by omega
    have XZ:=r1.one;have uh:=dD.one;rcases s6 (pG aF) o3 with⟨_,h,_⟩|⟨vb,vc,vcur,m_,ED,aCN,aCM,DG,rJ⟩
    ·exact absurd h hm
    have DG:vcur.size=vc*4:=DG;have rJ:vcur.toList.take (vs.length*4)=kO:=rJ;have aC6:vb<w.heap.size:=(Array.getElem?_eq_some_iff.1 ED).1;have src:Src w 4 v3 vs.length kO:=⟨c8,uh,.inr (.inl ⟨⟨vb,0,none⟩,vc,m_,fun j u hj=>by
     rw[<-rJ,List.getElem?_take] at hj;split at hj
     ·rw[Addr.add_lit,Nat.zero_add];simpa[World.cell?,ED] using hj
     ·cases hj⟩)⟩
    have append:k=xs.length->∃v' W,(∀ty,(Builtin.append_ #[T,T] ty #[v1,v3]).run P w=.ok v' W)/\∀w',w'=W->
      ∃eN eM rv,Fr ((bZ v1).toList++(bZ v3).toList) w w'/\jI w' (fun b=>X b\/b∈eN++eM) (ep [Arg.av (b4.aq (aU.fresh t xs)),Arg.av (b4.aq (aU.d (.int .i64 (k:Int)))),Arg.av (b4.aq (aU.fresh t vs))] [v1,.int .i64 (k:Int),v3]) [] eN/\
       lS w' (fun b=>X b\/b∈eN++eM) [.aq (.fresh t (xs.take k++vs++xs.drop k))] rv eM/\
       v'=oK rv/\(eN++eM).Nodup/\∀b,b∈eN++eM->¬X b/\(b∈(bZ v1).toList++(bZ v3).toList\/w.heap.size<=b):=by
     intro uR;obtain⟨v',W,hr,own,gb,hb⟩:=Fi (u:=t.kl) w T T 0 e (fun h=>by rw[pG aF] at h;cases h) i0 z 4 bt ay (.inl ⟨e,ay⟩) hi0 hz hzs hzb hzc (by first|exact sg|decide) v1 xs.length cs ⟨t1,o1⟩ v3 vs.length kO src ac1 hroom
     refine⟨v',W,fun ty=>hr,fun w' o6=>?_⟩
     subst o6;refine Bs aF (w:=w) (w':=w') hk r1 dD ?_ ⟨gb.os,gb.tape,gb.output,gb.size,fun b hb1 hb2=>gb.block b hb1 fun h=>hb2 ?_⟩ hold (fun b ew=>⟨(hb b ew).1,?_⟩) EH _ _ fh
     ·obtain⟨cU,own⟩:=own;refine⟨cU,?_⟩;rw[uR,List.take_of_length_le (by omega),List.drop_eq_nil_of_le (by omega),List.append_nil]
      exact own
     ·refine bp.2 (.inl ?_);rcases s6 (pG aF) o1 with⟨an,_,_⟩|⟨g,c,cur,an,_⟩
      ·rw[an] at h;cases h
      ·rw[an] at h ⊢;cases h;simp[bZ]
     ·rcases(hb b ew).2 with h|h
      ·exact .inl (bp.2 (.inl (by rw[h];simp)))
      ·exact .inr h
    rcases s6 (pG aF) o1 with⟨h,hn,aCR⟩|⟨g,c,cur,h,hg,hnc,hcm,la,mI⟩
    ·have qv:k=0:=by omega
     obtain⟨v',W,hr,fin⟩:=append (by omega)
     subst qv;subst h m_;exact sN (he _ _) (R.auu (some ⟨vb,0,none⟩) vs.length vc w uO v' W hr) fin
    ·have hc63:c<=9223372036854775807:=by simp only[maxLen] at hcm;omega
     have la:cur.size=c*4:=la;have mI:cur.toList.take (xs.length*4)=cs:=mI;have ayJ:g<w.heap.size:=(Array.getElem?_eq_some_iff.1 hg).1;by_cases uR:k=xs.length
     ·obtain⟨v',W,hr,fin⟩:=append uR;subst h m_;subst uR;exact sN (he _ _) (R.aut g xs.length c (some ⟨vb,0,none⟩) vs.length vc w hnc hc63 uO v' W hr) fin
     ·have hlt:k<xs.length:=by omega
      have hne:vb≠g:=by
       intro bU;subst bU;rw[h,m_] at lm;simp[bZ] at lm
      have eG:g∈(bZ v1).toList++(bZ v3).toList:=by rw[h];simp[bZ]
      have hlen:(cs.take (k*4)++kO++cs.drop (k*4)).length=(xs.length+vs.length)*4:=by simp only[dx,List.length_take,List.length_drop,uP,c8];omega
      by_cases hr:xs.length+vs.length<=c
      ·have key:=R.shift g xs.length c k vb vs.length vc cur vcur _ _ w hlt uO hr hc63 hne hg ED la (by rw[DG];omega) (by rw[mI];exact XZ) (by rw[rJ];exact uh)
       rw[mI,rJ] at key;subst h m_;refine sN (he _ _) key fun w' o6=>?_
       subst o6;refine Bs aF (w:=w) hk r1 dD ⟨_,hlen,.inr ⟨g,c,_,(0,0),rfl,Uq aF,setRow_heap w.drew g cur _ _ (0,0) hg,hr,hcm,?_,?_⟩⟩ ⟨rfl,rfl,rfl,by simp,fun b hb1 hb2=>setRow_other w.drew g b _ (fun h=>hb2 (h▸eG))⟩ hold (fun b hb=>?_) EH _ _ fh
       ·simp only[bY,List.size_toArray,dx,List.length_drop,List.length_take,Array.length_toList,la,uP,c8];omega
       ·show List.take _ (bY (bY cur.toList ((k+vs.length)*4) (cs.drop (k*4))) (k*4) kO)=_;have l7:xs.length*4+vs.length*4<=cur.toList.length:=by have q:=Array.length_toList (xs:=cur);omega
        exact aiI cur.toList cs kO xs.length vs.length k mI hk c8 l7
       ·cases hb;exact⟨by simpa using ayJ,.inl eG⟩
      ·obtain⟨G,ROW,W,ay8,ay7,ay6,ay5,hW1,aDf,aDe,Np,key⟩:=R.grow g xs.length c k vb vs.length vc cur vcur _ _ w hlt uO hnc (by omega) hc63 hroom hg ED la (by rw[DG];omega) (by rw[mI];exact XZ) (by rw[rJ];exact uh)
       rw[mI,rJ] at key;subst h m_;refine sN (he _ _) key fun w' o6=>?_
       obtain⟨aI,aJ,bS,cY⟩:=o6;have ayX:W.heap[w.heap.size]? =some (.cells ROW e (0,0)):=by rw[Np];simp
       have hsz:w'.heap.size=w.heap.size+1:=by rw[cY,setRow_size,Np];simp
       refine Bs aF (w:=w) hk r1 dD ⟨_,hlen,.inr ⟨w.heap.size,G,_,(0,0),rfl,Uq aF,(by rw[cY];exact setRow_heap W w.heap.size ROW _ _ (0,0) ayX),ay7,ay8,?_,?_⟩⟩ ⟨aI,aJ,bS,by omega,fun b hb1 hb2=>?_⟩ hold (fun b hb=>?_) EH _ _ fh
       ·simp only[bY,List.size_toArray,dx,List.length_drop,List.length_take,Array.length_toList,ay6,uP,c8];omega
       ·show List.take _ (bY (bY ROW.toList (k*4) kO) ((k+vs.length)*4) (cs.drop (k*4)))=_;have l7:xs.length*4+vs.length*4<=ROW.toList.length:=by have q:=Array.length_toList (xs:=ROW);omega
        refine aho ROW.toList cs kO xs.length vs.length k ?_ hk uP c8 l7;rw[ay5,<-mI,List.take_take,Nat.min_eq_left (by omega)]
       ·rw[cY,setRow_other W w.heap.size b _ (by omega),Np]
        have hne:b≠w.heap.size:=Nat.ne_of_lt hb1;rw[Array.getElem?_push,if_neg hne]
       ·have hb:some w.heap.size=some b:=hb;cases hb;exact⟨by rw[hsz];exact Nat.lt_succ_self _,.inr (Nat.le_refl _)⟩
def Ed:Value->Value->Bool
 |.int k n,.int k' m=>decide (k=k')&&decide (n=m)
 |.bool a,.bool b=>a==b
 |.string a,.string b=>a.data.toList.isEmpty&&b.data.toList.isEmpty
 |.pointer none,.pointer none=>true
 |.slice none 0 0,.slice none 0 0=>true
 |.map none,.map none=>true
 |.nilFunc,.nilFunc=>true
 |.nilIface,.nilIface=>true
 |_,_=>false
theorem UI{u v:Value}(h:Ed u v=true):u=v:=by
 unfold Ed at h;split at h
 ·simp only[bC,dY] at h;rw[h.1,h.2]
 ·rw[eq_of_beq h]
 ·rename_i a b;simp only[bC,List.isEmpty_iff] at h;obtain⟨⟨a⟩⟩:=a;obtain⟨⟨b⟩⟩:=b;obtain⟨rfl,rfl⟩:=h;rfl
 ·rfl
 ·rfl
 ·rfl
 ·rfl
 ·rfl
 ·cases h
def w8:List Value->List Value->Bool
 |[],[]=>true
 |a::as,b::bs=>Ed a b&&w8 as bs
 |_,_=>false
theorem HU:∀{us vs:List Value},w8 us vs=true->us=vs
 |[],[],_=>rfl
 |_::_,_::_,h=>by
  simp only[w8,bC] at h;rw[UI h.1,HU h.2]
 |[],_::_,h=>by cases h
 |_::_,[],h=>by cases h
section
variable {P:Program}{T:TypeId}
def nP(P:Program)(T:TypeId)(z:Value):Bool:=match P.info? T with
 |some i=>i.size.beq 1&&(match i.zero with|some v=>Ed v z|none=>false)
 |none=>false
theorem pK{z:Value}(h:nP P T z=true):(P.info? T).map (fun i=>(i.size,i.zero))=some (1,some z):=by
 unfold nP at h;cases hi:P.info? T with
 |none=>rw[hi] at h;cases h
 |some i=>
  rw[hi] at h;simp only[bC] at h;have h1:=cg h.1;cases hz:i.zero with
  |none=>rw[hz] at h;cases h.2
  |some v=>rw[hz] at h;simp only[Option.map_some,h1,hz,UI h.2]
def l'(P:Program)(T:TypeId):cu->Bool
 |.int k=>nP P T (.int k 0)&&(match P.underlying T with|some (.int k')=>decide (k'=k)|_=>false)
 |.bool=>nP P T (.bool false)&&(match P.underlying T with|some .bool=>true|_=>false)
 |.str=>nP P T (.string ⟨#[]⟩)&&(match P.underlying T with|some .string=>true|_=>false)
 |.ptr=>nP P T (.pointer none)&&(match P.underlying T with|some (.pointer _)=>true|_=>false)
 |.func=>nP P T .nilFunc&&(match P.underlying T with|some (.func _ _ _)=>true|_=>false)
 |.iface=>nP P T .nilIface&&(match P.underlying T with|some (.interface _)=>true|_=>false)
 |_=>false
theorem kZ{ti:cu}(h:l' P T ti=true):ti.ok P T:=by
 unfold l' at h;split at h;all_goals first|cases h;done|skip
 all_goals
  simp only[bC] at h;obtain⟨h1,h2⟩:=h;split at h2;all_goals first|cases h2;done|skip
  rename_i hu
 ·simp only[dY] at h2;subst h2;exact⟨hu,fun _ h=>by(cases h),fun _ _ h=>by(cases h),pK h1⟩
 ·exact⟨hu,fun _ h=>by(cases h),fun _ _ h=>by(cases h),pK h1⟩
 ·exact⟨hu,fun _ h=>by(cases h),fun _ _ h=>by(cases h),pK h1⟩
 ·exact⟨_,hu,fun _ h=>by(cases h),fun _ _ h=>by(cases h),pK h1⟩
 ·exact⟨_,_,_,hu,fun _ h=>by(cases h),fun _ _ h=>by(cases h),pK h1⟩
 ·exact⟨_,hu,fun _ h=>by(cases h),fun _ _ h=>by(cases h),pK h1⟩
def u4(P:Program):Nat->List (TypeId×Nat×Bool)->List aU->Bool
 |_,[],[]=>true
 |k,(t,D,b)::b0,.d (.int i _)::z=>D.beq k&&!b&&l' P t (.int i)&&u4 P (k+1) b0 z
 |k,(t,D,b)::b0,.d (.bool _)::z=>D.beq k&&!b&&l' P t .bool&&u4 P (k+1) b0 z
 |k,(t,D,b)::b0,.d (.str _)::z=>D.beq k&&!b&&l' P t .str&&u4 P (k+1) b0 z
 |_,_,_=>false
theorem ap6:∀{b0:List (TypeId×Nat×Bool)} {k:Nat} {z:List aU},u4 P k b0 z=true->nT P k b0 z:=by
 intro b0;induction b0 with
 |nil=>intro k z h;cases z<;>first|trivial|cases h
 |cons f b0 ih=>
  obtain⟨t,D,b⟩:=f;intro k z h;cases z with
  |nil=>cases h
  |cons l z=>
   cases l<;>try(cases h;done)
   rename_i d;cases d<;>try(cases h;done)
   all_goals
    simp only[u4,bC,Bool.not_eq_true'] at h;exact⟨cg h.1.1.1,h.1.1.2,kZ h.1.2,ih h.2⟩
def uC(P:Program)(T:TypeId):cu->Bool
 |.none=>true
 |.slice e t bytes=>nP P T (.slice none 0 0)&&(match P.underlying T with|some (.slice cU)=>cU.beq e|_=>false)&&(match P.info? e with
  |some i=>i.size.beq (bg t)&&i.bytes.beq bytes&&(match i.zero with|some z=>z.cells.size.beq (bg t)|none=>false)
  |none=>false)&&(!t.kl||e.beq nh)
 |.struct b0 n z eq=>match P.underlying T,P.info? T with
  |some (.struct fields),some i=>decide (fields.toList.mapM (fun f=>(P.info? f.type).map fun i=>(f.offset,i.size))=some b0)&&b0.all (fun p=>!p.2.beq 0)&&i.size.beq n&&z.length.beq n&&
    (match i.zero,lN z with|some (.agg gG),some vs=>w8 vs gG.toList|_,_=>false)&&
    (!eq||(!P.stoodInHeld T&&!P.eqGuardType P.depth T&&!fields.toList.isEmpty&&u4 P 0 (fields.toList.map fun f=>(f.type,f.offset,f.name== "_")) z))
  |_,_=>false
 |.map k e t=>nP P T (.map none)&&(match P.underlying T with|some (.map k' cU)=>k'.beq k&&cU.beq e|_=>false)&&(match P.underlying k with|some .string=>true|_=>false)&&
   (match t with|.i64=>l' P e (.int .i64)|.bool=>l' P e .bool|_=>false)
 |.arr e t n=>(match P.underlying T with|some (.array h6 cU)=>h6.beq n&&cU.beq e|_=>false)&&(match P.info? T with
  |some i=>i.size.beq n&&(match i.zero,uz t with|some (.agg gG),some z=>(match lN (List.replicate n z) with|some vs=>w8 vs gG.toList|none=>false)|_,_=>false)
  |none=>false)&&(match t with|.i64=>l' P e (.int .i64)|.u32=>l' P e (.int .u32)|.bool=>l' P e .bool|.str=>l' P e .str|_=>false)
 |ti=>l' P T ti
theorem aoY{ti:cu}(h:uC P T ti=true):ti.ok P T:=by
 cases ti with
 |none=>trivial
 |int k=>exact kZ (ti:=.int k) h
 |bool=>exact kZ (ti:=.bool) h
 |str=>exact kZ (ti:=.str) h
 |ptr=>exact kZ (ti:=.ptr) h
 |func=>exact kZ (ti:=.func) h
 |iface=>exact kZ (ti:=.iface) h
 |slice e t bytes=>
  simp only[uC,bC] at h;obtain⟨⟨⟨h1,h2⟩,h3⟩,h0⟩:=h;split at h2<;>try(cases h2;done)
  rename_i cU hu;cases cg h2;split at h3<;>try(cases h3;done)
  rename_i i hi;simp only[bC] at h3;obtain⟨⟨g1,g2⟩,g3⟩:=h3;split at g3<;>try(cases g3;done)
  rename_i z hz;exact⟨⟨hu,fun _ h=>by(cases h),fun _ _ h=>by(cases h),pK h1⟩,z,by simp only[hi,Option.map_some,cg g1,cg g2,hz],cg g3,fun h=>by rw[h] at h0;exact cg h0⟩
 |struct b0 n z eq=>
  simp only[uC] at h;split at h<;>try(cases h;done)
  rename_i fields i hu hi;simp only[bC,dY] at h;obtain⟨⟨⟨⟨⟨h1,h2⟩,h3⟩,aF⟩,bo⟩,cp⟩:=h;split at bo<;>try(cases bo;done)
  rename_i gG vs hz o4;refine⟨fields,hu,⟨h1,fun p hp e=>?_⟩,⟨gG,by simp only[hi,Option.map_some,cg h3,hz],by rw[o4,HU bo],cg aF⟩,fun he=>?_⟩
  ·have:=List.all_eq_true.1 h2 p hp;rw[e] at this;cases this
  ·subst he;simp only[bu,Bool.false_or,bC,Bool.not_eq_true'] at cp;obtain⟨⟨⟨aI,aJ⟩,bS⟩,cY⟩:=cp;exact ajT hu aI aJ rfl (fun e=>by rw[e] at bS;cases bS) (ap6 cY)
 |map k e t=>
  simp only[uC,bC] at h;obtain⟨⟨⟨h1,h2⟩,h3⟩,aF⟩:=h;split at h2<;>try(cases h2;done)
  rename_i k' cU hu;simp only[bC] at h2;cases cg h2.1;cases cg h2.2;split at h3<;>try(cases h3;done)
  rename_i hk;refine⟨⟨hu,fun _ h=>by(cases h),fun _ _ h=>by(cases h),pK h1⟩,hk,?_⟩
  split at aF<;>try(cases aF;done)
  ·exact kZ (ti:=.int .i64) aF
  ·exact kZ (ti:=.bool) aF
 |arr e t n=>
  simp only[uC,bC] at h;obtain⟨⟨h1,h2⟩,h3⟩:=h;split at h1<;>try(cases h1;done)
  rename_i h6 cU hu;simp only[bC] at h1;cases cg h1.1;cases cg h1.2;split at h2<;>try(cases h2;done)
  rename_i i hi;simp only[bC] at h2;obtain⟨g1,g2⟩:=h2;split at g2<;>try(cases g2;done)
  rename_i gG z hz Eo;split at g2<;>try(cases g2;done)
  rename_i vs hvs;refine⟨hu,⟨gG,z,by simp only[hi,Option.map_some,cg g1,hz],Eo,by rw[hvs,HU g2]⟩,?_⟩
  split at h3<;>try(cases h3;done)
  ·exact kZ (ti:=.int .i64) h3
  ·exact kZ (ti:=.int .u32) h3
  ·exact kZ (ti:=.bool) h3
  ·exact kZ (ti:=.str) h3
def K4(P:Program):List (Nat×cu)->Bool
 |[]=>true
 |(k,v)::r=>uC P k v&&K4 P r
theorem S3:∀{l:List (Nat×cu)},K4 P l=true->KU P l
 |[],_=>trivial
 |(_,_)::_,h=>by
  simp only[K4,bC] at h;exact⟨aoY h.1,S3 h.2⟩
end
abbrev a8:=List (Nat×aH)
def C':a8->Nat->Option aH
 |[],_=>none
 |(k,S)::r,n=>bif k.beq n then some S else C' r n
def D4(P:Program):a8->Prop
 |[]=>True
 |(k,S)::r=>aE P k S/\D4 P r
theorem RA{P:Program}:∀{L:a8},D4 P L->∀g S,C' L g=some S->aE P g S
 |[],_,_,_,h=>by cases h
 |(k,S)::r,dX,g,cA,h=>by
  simp only[C'] at h;cases hb:k.beq g with
  |true=>
   rw[hb] at h;cases h;rw[<-cg hb];exact dX.1
  |false=>rw[hb] at h;exact RA dX.2 g cA h
structure Env where
 tt:TypeId->cu
 mh:List (Nat×Nat)
 oh:List Nat
 op:List Nat
 kU:List Nat:=[]
 bs:List Nat:=[]
 gt:List (Nat×((t:bi)×List (den t))):=[]
structure Xz(P:Program)(E:Env):Prop where
 tt:∀T,(E.tt T).ok P T
 N':P.follows .mixedOrders=true
 mh:∀p,p∈E.mh->B0 P p.1 p.2
 op:∀g,g∈E.op->C3 P g
 kU:∀g,g∈E.kU->C5 P g
 bs:∀g,g∈E.bs->Dn P g
 gt:∀p,p∈E.gt->DX p.1 p.2.1 p.2.2
def Da:List (Nat×Nat)->Nat->Option Nat
 |[],_=>none
 |(k,v)::r,n=>bif k.beq n then some v else Da r n
theorem Re:∀{l:List (Nat×Nat)} {n v:Nat},Da l n=some v->(n,v)∈l
 |[],_,_,h=>by cases h
 |(k,u)::r,n,v,h=>by
  simp only[Da] at h;cases hb:k.beq n with
  |true=>rw[hb] at h;cases h;rw[<-cg hb];exact ci
  |false=>rw[hb] at h;exact cf _ (Re h)
theorem Ah:∀{l:List Nat} {n:Nat},gA n l=true->n∈l
 |m::r,n,h=>by
  simp only[gA,Bool.or_eq_true] at h;rcases h with h|h
  ·rw[cg h];exact ci
  ·exact cf _ (Ah h)
theorem alP{g:Nat}{zs:List Int}(hg:g∈lo)(h:∀w,n_ w->oS w g .u32 zs):DX g .u32 zs:=by
 refine⟨hg,fun w av hw=>?_⟩
 obtain⟨T,fz,h⟩:=h w hw;have e:∀zs:List Int,flat .u32 zs=zs.map fun z=>bk.int .u32 z:=by
  intro zs;induction zs with
  |nil=>rfl
  |cons z zs ih=>exact congrArg (bk.int .u32 z:: ·) ih
 refine⟨T,fz,_,h,by rw[e];simp,fun j h1 h2=>?_⟩
 simp only[e,List.getElem_map];exact .int _ _
def aZ(E:Env)(L:a8):Ctx:={tt:=E.tt,b0:=C' L,mh:=Da E.mh,oh:=fun n=>gA n E.oh,op:=fun n=>gA n E.op,kU:=fun n=>gA n E.kU,bs:=fun n=>gA n E.bs,gt:=look E.gt}
theorem aok{P:Program}{E:Env}(h:Xz P E){L:a8}(dX:D4 P L):aT P (aZ E L):=
 ⟨⟨h.tt,fun g t xs e=>h.gt (g,⟨t,xs⟩) (alB e)⟩,RA dX,h.N',fun g cN e=>h.mh (g,cN) (Re e),fun g e=>h.op g (Ah e),fun g e=>h.kU g (Ah e),fun g e=>h.bs g (Ah e)⟩
theorem a7{P:Program}{c:Code}{q p:Nat}{f:iv}{r:List (Nat×iv)}(h:aV P (ap c q p) f)(t:l2 P c q r):l2 P c q ((p,f)::r):=⟨h,t⟩
def _c(fn:Func)(fL:List Nat):Bool:=fn.body.isSome&&!(fn.name== "runtime.NumGoroutine")&&gf (keys (gz (codeOf fn) 1))&&fs fL (cJ (codeOf fn))
noncomputable def aL(E:Env)(fn:Func)(mi lw:Shape)(fL:List Nat)(f:mi.J->Option lw.J):aH:=pM E.tt fn.ntmps mi lw fn.results.toList fL f
def XU(tt:TypeId->cu)(fn:Func)(fL:List Nat)(st:ao):Bool:=match oG tt st fn.results.toList,oy st fL with
 |some r,some po=>gf (keys (po.2++r.2))
 |_,_=>false
theorem aM{P:Program}{E:Env}{L:a8}(H:aT P (aZ E L)){g:FuncId}{fn:Func}{mi lw:Shape}{fL:List Nat}{cZ:List (Nat×iv)}{f:mi.J->Option lw.J}(n9:P.funcs[g]? =some fn)(hb:_c fn fL=true)
  (eS:l2 P (codeOf fn) 1 cZ) (rK:∀y,XU E.tt fn fL (lw.st y)=true) (hf:∀a,f a=KT (hJ (aZ E L) cZ) (codeOf fn) mi lw a):aE P g (aL E fn mi lw fL f):=by
 simp only[_c,bC] at hb;obtain⟨⟨⟨h1,h2⟩,h3⟩,aF⟩:=hb;refine ap0 (C:=aZ E L) H n9 ?_ ?_ rfl h3 eS aF (fun y=>?_) hf
 ·obtain⟨c,hc⟩:=Option.isSome_iff_exists.1 h1;simp[codeOf,hc]
 ·simpa using h2
 ·have:=rK y;unfold XU at this;split at this
  ·rename_i r po e1 e2;exact⟨r,po,e1,e2,this⟩
  ·cases this
theorem bR{P:Program}{C:Ctx}(H:aT P C){c:Code}{q p:Nat}{be:Shape}{os:List aR}{cZ:List (Nat×iv)}{g:be.J->Option (Sum be.J (aG os))}(hl:(VM (ap c q p)&&gf (keys (gz (di (ap c q p)) (2*p))))=true)
  (eS:l2 P (di (ap c q p)) (2*p) cZ) (hg:∀y,g y=tx (hJ C cZ) (di (ap c q p)) p be os y):aV P (ap c q p) (aX be os (bA g)):=by
 simp only[bC] at hl;exact anQ H hl.1 hl.2 eS (fun y=>ahS hg y)
def Vh(c:Code)(p t fg:Nat)(be:Shape)(os:List aR)(gI:List Nat):Bool:=fs gI (keys (gz (nw c) (2*p)))&&gf (keys (gz (ky c) (2*p+1)))&&
 fs (keys be.c5) (fg::(cJ (nw c)++cJ (ky c)))&&hI (nw c)&&hI (ky c)&&Nat.blt fg be.nt&&ud be.nt os
theorem Ps{P:Program}{C:Ctx}(H:aT P C){cN:FuncId}(vl:wQ P cN){c:Code}{q p t fg:Nat}{be:Shape}{os:List aR}{cZ:List (Nat×iv)}{aW:B->be.J->Option (Sum be.J (aG os))}{fin:be.J->Option (aG os)}
  (nf:ap c q p=.rangeFunc (.tmp t) #[fg] (nw (ap c q p)) (ky (ap c q p))) (eS:l2 P (ky (ap c q p)) (2*p+1) cZ) (hb:Vh (ap c q p) p t fg be os (wX cZ)=true)
  (hr:∀x y,aW x y=JX (hJ C cZ) (nw (ap c q p)) (ky (ap c q p)) p fg be os x y) (xl:∀y,fin y=hY os (.norm (be.st y))):aV P (ap c q p) (s5 cN t be os aW fin):=by
 simp only[Vh,bC] at hb;obtain⟨⟨⟨⟨⟨⟨h1,h2⟩,h3⟩,aF⟩,bo⟩,cp⟩,iA⟩:=hb;exact akN H vl nf h1 h2 eS hr xl h3 aF bo cp iA
abbrev aj(t:Nat):Nat×fw:=(t,.aq (.d (.int .i64)))
abbrev ar(t:Nat):Nat×fw:=(t,.aq (.d .bool))
abbrev am(t:Nat):Nat×fw:=(t,.aq (.d .str))
abbrev aO(t:Nat)(u:bi):Nat×fw:=(t,.aq (.d (.sl u)))
abbrev ax(t n D:Nat):Nat×fw:=(t,.aq (.ptr n D))
abbrev bd(t n:Nat):Nat×fw:=(t,.aq (.own n))
abbrev ck(t:Nat)(bf:List dH):Nat×fw:=(t,.agg bf)
abbrev ba:dH:=.d (.int .i64)
abbrev mm:dH:=.d .bool
abbrev ah:dH:=.d .str
abbrev br(u:bi):dH:=.d (.sl u)
abbrev eX(t n:Nat)(u:bi):Nat×fw:=(t,.aq (.fm n u))
abbrev bc(n:Nat)(u:bi)(t j:Nat):Nat×eR×Loc:=(n,.row u,.slot t j)
abbrev bv(n:Nat)(u:bi)(t j:Nat):Nat×eR×Loc:=(n,.row u,.cell t j)
abbrev aw(n:Nat)(bf:List dH):Nat×eR×Loc:=(n,.box bf,.same)
def ab{aD:Type}(D:Option aD)(P:aD->Prop):Prop:=∃x,D=some x/\P x
theorem ab.bind{aD lu:Type}{D:Option aD}{k:aD->Option lu}{P:aD->Prop}{Q:lu->Prop}(h:ab D P)(hk:∀x,P x->ab (k x) Q):ab (D.bind k) Q:=by
 obtain⟨x,rfl,hx⟩:=h;exact hk x hx
theorem ab.eq{aD lu:Type}{D:Option aD}{k:aD->Option lu}{x:aD}{Q:lu->Prop}(h:D=some x)(hk:ab (k x) Q):ab (D.bind k) Q:=by
 rw[h];exact hk
theorem ab.ret{aD:Type}{x:aD}{Q:aD->Prop}(h:Q x):ab (some x) Q:=⟨x,rfl,h⟩
theorem ab.ite{aD:Type}{c:Bool}{x y:Option aD}{Q:aD->Prop}(h1:c=true->ab x Q)(h2:c=false->ab y Q):ab (bif c then x else y) Q:=by
 cases c
 ·exact h2 rfl
 ·exact h1 rfl
theorem ab.mono{aD:Type}{D:Option aD}{P Q:aD->Prop}(h:ab D P)(hk:∀x,P x->Q x):ab D Q:=by
 obtain⟨x,rfl,hx⟩:=h;exact⟨x,rfl,hk x hx⟩
theorem ab.loop{J bx:Type}{f:J->Option (Sum J bx)}(I:Nat->J->Prop){Q:bx->Prop}(h:∀n y,I n y->ab (f y) (fun s=>match s with|.inl y'=>∃k,k<n/\I k y'|.inr b=>Q b)):∀n y,I n y->ab (bA f y) Q:=by
 intro n;induction n using Nat.strongRecOn with
 |_ n ih=>
  intro y hy;obtain⟨s,hs,aC⟩:=h n y hy;cases s with
  |inl y'=>
   obtain⟨k,hk,dG⟩:=aC;rw[d' hs];exact ih k hk y' dG
  |inr b=>exact⟨b,cC hs,aC⟩
theorem dI{s t:B}(h:s.length+t.length<=4611686018427387904):cc s t=some (s++t):=by
 unfold cc;rw[if_neg];show ¬(((s.length+t.length:Nat):Int)>9223372036854775807);omega
theorem wA{k:IntKind}{x y:Int}(hk:k=.i64)(h0:0<=x)(h1:x<=4611686018427387904)(hy:0<y):l5 k x y=some (x/y):=by
 subst hk;unfold l5;rw[if_neg (by omega),Int.tdiv_eq_ediv_of_nonneg h0]
 have h2:0<=x/y:=Int.ediv_nonneg h0 (by omega)
 have h3:x/y<=x:=Int.ediv_le_self y h0;rw[c' (by omega) (by omega)]
theorem oL{x y:Int}(h0:0<=x)(hy:0<y):ja x y=some (x%y):=by
 unfold ja;rw[if_neg (by omega),Int.tmod_eq_emod_of_nonneg h0]
theorem aoR{x y:Int}(hx:0<=x)(qn:x<4611686018427387904)(hy:0<=y)(ev:y<4611686018427387904):0<=dB .i64 x y:=by
 unfold dB;obtain⟨m,rfl⟩:=Int.eq_ofNat_of_zero_le hx;obtain⟨n,rfl⟩:=Int.eq_ofNat_of_zero_le hy;have key:(BitVec.ofInt IntKind.i64.bits (m:Int) ^^^ BitVec.ofInt IntKind.i64.bits (n:Int)).toNat<4611686018427387904:=by
  rw[BitVec.toNat_xor];have h1:(BitVec.ofInt IntKind.i64.bits (m:Int)).toNat=m:=by
   rw[BitVec.ofInt_natCast,BitVec.toNat_ofNat];exact Nat.mod_eq_of_lt (by show m<2^64;omega)
  have h2:(BitVec.ofInt IntKind.i64.bits (n:Int)).toNat=n:=by
   rw[BitVec.ofInt_natCast,BitVec.toNat_ofNat];exact Nat.mod_eq_of_lt (by show n<2^64;omega)
  rw[h1,h2];exact Nat.xor_lt_two_pow (n:=62) (by omega) (by omega)
 rw[c' (by omega) (by omega)]
 omega
theorem nJ{aD:Type}{xs:List aD}{i:Int}(h0:0<=i)(h1:i<(xs.length:Int)):∃x,aS xs i=some x/\x∈xs:=by
 obtain⟨n,rfl⟩:=Int.eq_ofNat_of_zero_le h0;have hn:n<xs.length:=by omega
 exact⟨xs[n],by rw[cd];exact dZ hn,List.getElem_mem hn⟩
structure dl(b:List Int)(p:Int)(m:Nat):Prop where
 len:b.length<=2000
 byte:∀x,x∈b->0<=x/\x<=255
 de:0<=p
 hi:p+m<=1099511627776
theorem dl.less{b:List Int}{p:Int}{m k:Nat}(h:dl b p m)(hk:k<=m):dl b p k:=⟨h.len,h.byte,h.de,by have:=h.hi;omega⟩
end Go.Jk
