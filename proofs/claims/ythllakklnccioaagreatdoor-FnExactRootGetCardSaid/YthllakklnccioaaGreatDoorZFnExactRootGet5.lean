/- FnExactRootGet: the program's RootGet returns what the reference's returns, for all arguments. (part 6 of 7: JkMPuGk, JkMPuGl, JkMF198, JkMPuGm, JkMPuGn, JkMPuGo, JkMF199, JkMPuGp, JkMF146, JkMF147, JkMPuGq, JkMF92, JkMPuGr, JkMF49, JkMPuGs, JkMF10, JkMPuHc) Conditions: none beyond the statement. -/
import Derived.Test.YthllakklnccioaaGreatDoorZFnExactRootGet4
import Derived.Tactics
import Derived.Deep.RegionLaw
import Derived.Shelf.Abstract
import Derived.Test.YthllakklnccioaaGreatDoorProg
import Derived.KernelRfl
set_option maxRecDepth 100000
set_option linter.unusedVariables false
set_option linter.unusedSimpArgs false
namespace Go.Proofs
open Go.Jk
abbrev qE(ps:List aT):Prop:=∀p,p∈ps->cT p=true/\(bO p).length<=4000
def u_(s:F)(ps:List aT):Prop:=kH ps=true/\dT ps=s/\qE ps
abbrev E2(ps:List aT):yh.J:=(((),(true,())),(ps,(((),()),())))
abbrev EH:yh.J:=(((),(false,())),(([]:List aT),(((),()),())))
def M8(D:Option (List aT)):yh.J:=match D with|some ps=>E2 ps|none=>EH
theorem wR{ps:List aT}(h:qE ps)(hl:ps.length<=6):ic ps/\vK ps:=by
 refine⟨⟨by show ps.length<=2097152;omega,fun p hp=>JI (h p hp).1 (h p hp).2⟩,fun p hp=>?_⟩
 obtain⟨hk,al⟩:=h p hp;obtain⟨q1,q2,dq,kB⟩:=zE p;refine⟨by omega,fun n hn=>?_⟩
 have h:=Fl cR hn;have fv:(cR n).length=(cS n).length+6:=by unfold cR;simp
 have hp:n.name.length+n.aW.length<=(cS n).length:=by unfold cS;simp
 omega
theorem F9(p:aT)(ps:List aT):dT (p::ps)=fX (bO p)++dT ps:=by unfold dT;rw[List.flatMap_cons]
theorem akY:∀(m:Nat) (s:F) (ps:List aT),s.length<=m->m<=1000000000->ps.length<=5->
  w_ (((),((),(s,()))),(([]:List aT),(((),()),(ps,()))))=some (.inl EH)\/
  ∃bS:List aT,w_ (((),((),(s,()))),(([]:List aT),(((),()),(ps,()))))=some (.inr (((),((),())),(([]:List aT),(((),()),(ps++bS,())))))/\dT bS=s/\qE bS/\(ps++bS).length<=5:=by
 intro m;induction m with
 |zero=>
  intro s ps hs _ hl;have:s=[]:=List.length_eq_zero_iff.1 (by omega)
  subst this;exact .inr ⟨[],by rw[List.append_nil];exact cx rfl,rfl,fun p hp=>(by cases hp),by simpa using hl⟩
 |succ m ih=>
  intro s ps hs hm hl;cases s with
  |nil=>exact .inr ⟨[],by rw[List.append_nil];exact cx rfl,rfl,fun p hp=>(by cases hp),by simpa using hl⟩
  |cons b iX=>
   have hne:((b::iX)==([]:F))=false:=rfl;generalize ee:b::iX=s at hs hne;have z:=Ow s (by unfold am;omega)
   cases hz:mc s with
   |none=>
    rw[hz] at z;refine .inl (cx ?_);simp only[qp,hne,Bool.not_false,cond_true,z,Option.bind_some,Option.isSome_none,rs,Bool.not_true,cond_false]
   |some q=>
    obtain⟨x,y⟩:=q;obtain⟨aw,an⟩:=Po hz;rw[hz] at z;have z:f94 ((s,()),())=some ((x,(y,(true,()))),()):=z;by_cases br:ps.length=5
    ·refine .inl (cx ?_);have d:(((ps.length:Nat):Int)==5)=true:=by rw[beq_iff_eq];omega
     simp only[qp,hne,Bool.not_false,cond_true,z,Option.bind_some,rs,Bool.not_true,cond_false,d]
    ·have d:(((ps.length:Nat):Int)==5)=false:=by rw[beq_eq_false_iff_ne];omega
     have hx:x.length<=s.length:=by rw[aw];unfold fX;simp;omega
     obtain⟨D,g1,g2⟩:=adA x (by unfold am;omega)
     cases D with
     |none=>
      have g1:f95 ((x,()),())=some NN:=g1;refine .inl (cx ?_);simp only[qp,hne,Bool.not_false,cond_true,z,Option.bind_some,rs,Bool.not_true,cond_false,d,g1]
     |some p=>
      have g1:f95 ((x,()),())=some (s5 p):=g1;obtain⟨iZ,iY,p3⟩:=(g2 p).1 rfl;have fx:cw 80 ps ([(aT.mk p.name p.aW p.bh p.bK)]:List aT)=some (ps++[p]):=ew (by decide) (by unfold am;simp;omega)
      have st:qp (((),((),(s,()))),(([]:List aT),(((),()),(ps,()))))=some (.inl (((),((),(y,()))),(([]:List aT),(((),()),(ps++[p],()))))):=by
       simp only[qp,hne,Bool.not_false,cond_true,z,Option.bind_some,rs,Bool.not_true,cond_false,d,g1,fx]
      rcases ih y (ps++[p]) (by omega) (by omega) (by simp;omega) with e|⟨bS,e1,e2,bp,dU⟩
      ·exact .inl ((dL st).trans e)
      ·rw[List.append_assoc] at e1 dU;refine .inr ⟨p::bS,(dL st).trans e1,by rw[F9,e2,iY,<-aw],fun r hr=>?_,dU⟩
       rcases List.mem_cons.1 hr with rfl|hr
       ·exact⟨iZ,by rw[iY];exact p3⟩
       ·exact bp r hr
theorem akX:∀(bS ps:List aT),qE bS->ps.length+bS.length<=5->
  w_ (((),((),(dT bS,()))),(([]:List aT),(((),()),(ps,()))))=some (.inr (((),((),())),(([]:List aT),(((),()),(ps++bS,()))))):=by
 intro bS;induction bS with
 |nil=>intro ps _ _;rw[List.append_nil];exact cx rfl
 |cons p bS ih=>
  intro ps h hl;obtain⟨h1,h2⟩:=h p List.mem_cons_self;have hz:=afo (bO p) (dT bS) (by omega)
  rw[<-F9] at hz;have hlen:(dT (p::bS)).length<=30000:=by
   have:=wB (f:=fun p=>fX (bO p)) (xs:=p::bS) (n:=5000) fun q al=>by
    have:=(h q al).2;have:=oU (bO q).length (by omega)
    show(fX (bO q)).length<=5000;unfold fX;simp;omega
   have e:(dT (p::bS)).length=((p::bS).flatMap fun p=>fX (bO p)).length:=rfl
   simp only[List.length_cons] at hl this;have cB:(bS.length+1)*5000<=6*5000:=Nat.mul_le_mul_right _ (by omega)
   omega
  have z:=Ow (dT (p::bS)) (by unfold am;omega)
  rw[hz] at z;have z:f94 ((dT (p::bS),()),())=some ((bO p,(dT bS,(true,()))),()):=z;have g1:=Fa h1 h2;have hne:(dT (p::bS)==([]:F))=false:=by
   have:=(Po hz).2;cases hx:dT (p::bS) with
   |nil=>rw[hx] at this;simp at this
   |cons b r=>rfl
  have d:(((ps.length:Nat):Int)==5)=false:=by rw[beq_eq_false_iff_ne];simp at hl;omega
  have fx:cw 80 ps ([(aT.mk p.name p.aW p.bh p.bK)]:List aT)=some (ps++[p]):=ew (by decide) (by unfold am;simp;simp at hl;omega)
  have st:qp (((),((),(dT (p::bS),()))),(([]:List aT),(((),()),(ps,()))))=some (.inl (((),((),(dT bS,()))),(([]:List aT),(((),()),(ps++[p],()))))):=by
   simp only[qp,hne,Bool.not_false,cond_true,z,Option.bind_some,rs,Bool.not_true,cond_false,d,g1,fx]
  have:=ih (ps++[p]) (fun r hr=>h r (List.mem_cons_of_mem _ hr)) (by simp at hl ⊢;omega)
  rw[List.append_assoc] at this;exact(dL st).trans this
theorem adz(s:F)(hs:s.length<=1000000000):∃D:Option (List aT),f50 ((s,()),())=some (M8 D)/\rP D (u_ s):=by
 have put:∀ps:List aT,u_ s ps->f50 ((s,()),())=some (E2 ps):=by
  intro ps ⟨h1,h2,h3⟩;subst h2;have hl:ps.length<=5:=(vQ h1).2;obtain⟨hb,hv⟩:=wR h3 (by omega)
  have g:=akX ps [] h3 (by simpa using hl)
  have e:=PK (((ps,()),()),()) hb hv;have e:f48 (((ps,()),()),())=some ((kH ps,()),()):=e;rw[h1] at e;simp only[f50,g,List.nil_append,Option.bind_some,e,Bool.not_true,cond_false]
 have any:f50 ((s,()),())=some EH\/∃ps,f50 ((s,()),())=some (E2 ps)/\u_ s ps:=by
  rcases akY s.length s [] (Nat.le_refl _) hs (by decide) with g|⟨bS,g,h1,h2,h3⟩
  ·refine .inl ?_
   simp only[f50,g,Option.bind_some]
  ·rw[List.nil_append] at g h3;obtain⟨hb,hv⟩:=wR h2 (by omega)
   have e:=PK (((bS,()),()),()) hb hv;have e:f48 (((bS,()),()),())=some ((kH bS,()),()):=e;cases hr:kH bS with
   |false=>
    rw[hr] at e;refine .inl ?_
    simp only[f50,g,Option.bind_some,e,Bool.not_false,cond_true]
   |true=>
    rw[hr] at e;refine .inr ⟨bS,?_,hr,h1,h2⟩;simp only[f50,g,Option.bind_some,e,Bool.not_true,cond_false]
 rcases any with h|⟨ps,h,hr⟩
 ·refine⟨none,h,fun p=>⟨fun hp=>(by cases hp),fun hp=>?_⟩⟩
  have:=put p hp;rw[h] at this;simp only[Option.some.injEq,Prod.mk.injEq] at this;exact absurd this.1.2.1 (by decide)
 ·refine⟨some ps,h,fun q=>⟨fun hp=>by cases hp;exact hr,fun hp=>?_⟩⟩
  have:=put q hp;rw[h] at this;simp only[Option.some.injEq,Prod.mk.injEq] at this;rw[this.2.1]
theorem P3{c:UInt8}{k:Nat}{s:F}(h:ck c s):splitN c k s=[s]:=by
 cases k with
 |zero=>rfl
 |succ k=>unfold splitN;rw[akh h]
theorem Pf{c:UInt8}{k:Nat}{a b:F}(h:ck c a):splitN c (k+1) (a++c::b)=a::splitN c k b:=by
 show(match dv c (a++c::b) with|some (x,y)=>x::splitN c k y|none=>[a++c::b])=_
 rw[tA h]
theorem aiQ(pre mid rest:F):bD (pre++mid++rest) (pre.length:Int) ((pre.length+mid.length:Nat):Int)=some mid:=by
 rw[rq (by omega) (by simp),show pre.length+mid.length=(pre++mid).length by simp,List.take_left' rfl,List.drop_left' rfl]
theorem ajW(c:UInt8)(s:F)(hs:s.length<=1000000000):∀(rest mid pre:F) (parts:List F) (k kQ:Nat),s=pre++mid++rest->ck c mid->parts.length+k=kQ->parts.length<=pre.length->
  ∃(JJ:List F) (KK t:F),wO ((s,((c.toNat:Int),((kQ:Int),((),((pre.length:Int),(((pre.length+mid.length:Nat):Int),())))))),(parts,()))=some ((s,((),((KK.length:Int),()))),(JJ,()))/\s=KK++t/\JJ++[t]=parts++splitN c k (mid++rest)/\JJ.length<=KK.length:=by
 intro rest;induction rest with
 |nil=>
  intro mid pre parts k kQ h1 h2 h3 aE;rw[List.append_nil] at h1;refine⟨parts,pre,mid,cx ?_,h1,by rw[List.append_nil,P3 h2],aE⟩
  have d:decide (((pre.length+mid.length:Nat):Int)<(s.length:Int))=false:=decide_eq_false (by rw[h1];simp)
  simp only[qg,d,cond_false]
 |cons b r ih=>
  intro mid pre parts k kQ h1 h2 h3 aE;have hl:s.length=pre.length+mid.length+1+r.length:=by rw[h1];simp;omega
  have d:decide (((pre.length+mid.length:Nat):Int)<(s.length:Int))=true:=decide_eq_true (by omega)
  cases k with
  |zero=>
   refine⟨parts,pre,mid++b::r,cx ?_,by rw[h1,List.append_assoc],rfl,aE⟩
   have d2:decide (((parts.length:Nat):Int)<(kQ:Int))=false:=decide_eq_false (by omega)
   simp only[qg,d,d2,cond_true,cond_false]
  |succ k=>
   have d2:decide (((parts.length:Nat):Int)<(kQ:Int))=true:=decide_eq_true (by omega)
   have hx:aQ s ((pre.length+mid.length:Nat):Int)=some b:=by
    rw[cc,h1,List.getElem?_append_right (by simp)]
    simp
   have hw:IntKind.i64.wrap (((pre.length+mid.length:Nat):Int)+1)=((pre.length+mid.length+1:Nat):Int):=b6 (by unfold am;omega)
   by_cases hb:b=c
   ·subst hb;have al:(((b.toNat:Nat):Int)==(b.toNat:Int))=true:=by simp
    have hm:bD s (pre.length:Int) ((pre.length+mid.length:Nat):Int)=some mid:=by rw[h1];exact aiQ pre mid _
    have ha:cw 16 parts ([mid]:List F)=some (parts++[mid]):=ew (by decide) (by unfold am;simp;omega)
    have hp:(pre++mid++[b]).length=pre.length+mid.length+1:=by simp;omega
    obtain⟨k9,gd,t,g1,g2,g3,g4⟩:=ih [] (pre++mid++[b]) (parts++[mid]) k kQ (by rw[h1];simp) (ck.nil b) (by simp;omega) (by rw[hp];simp;omega)
    rw[hp] at g1;refine⟨k9,gd,t,(dL ?_).trans g1,g2,?_,g4⟩
    ·simp only[qg,d,d2,cond_true,hx,Option.bind_some,al,hm,ha,hw];rfl
    ·rw[g3,Pf h2];simp
   ·have al:(((b.toNat:Nat):Int)==(c.toNat:Int))=false:=by
     rw[beq_eq_false_iff_ne];intro h;exact hb (UInt8.toNat_inj.1 (by omega))
    obtain⟨k9,gd,t,g1,g2,g3,g4⟩:=ih (mid++[b]) pre parts (k+1) kQ (by rw[h1];simp) (h2.cm fun x hx=>by rw[List.mem_singleton.1 hx];exact hb) h3 aE
    have hp:pre.length+(mid++[b]).length=pre.length+mid.length+1:=by simp;omega
    rw[hp] at g1;refine⟨k9,gd,t,(dL ?_).trans g1,g2,?_,g4⟩
    ·simp only[qg,d,d2,cond_true,hx,Option.bind_some,al,cond_false,hw]
    ·rw[g3];simp
theorem mL(c:UInt8)(s:F)(hs:s.length<=1000000000)(kQ:Nat):f89 ((s,((c.toNat:Int),((kQ:Int),()))),())=some (((),()),(splitN c kQ s,())):=by
 obtain⟨k9,gd,t,g1,g2,g3,g4⟩:=ajW c s hs s [] [] [] kQ kQ rfl (ck.nil c) (by simp) (Nat.le_refl _)
 have g1:wO ((s,((c.toNat:Int),((kQ:Int),((),((0:Int),((0:Int),())))))),(([]:List F),()))=_:=g1;have al:gd.length<=s.length:=by rw[g2];simp
 have e1:bD s (gd.length:Int) ((s.length:Nat):Int)=some t:=by rw[hI al,g2];simp
 have e2:cw 16 k9 ([t]:List F)=some (k9++[t]):=ew (by decide) (by unfold am;simp;omega)
 simp only[f89,g1,Option.bind_some,e1,e2,g3];rfl
noncomputable abbrev aqL:bl:=[(232,Lz),(233,Ly),(234,Lx)]
theorem DW:bc Z (bi ak aqL):=bj ⟨z232,z233,z234,⟨⟩⟩
abbrev Be:Shape:=⟨[aq 0,a8 2 2 0,aC 3,ad 4],[a7 2 [ax,bz,ax]],75⟩
abbrev Ic:List aR:=[(.exit 0,⟨[aq 0,a8 2 2 0,aC 3,ad 4],[a7 2 [ax,bz,ax]],75⟩)]
noncomputable def rG(y:Be.J):bR Be Ic:=
 bif(decide (y.1.2.2.2.1<(y.1.1.length:Int))) then
(aQ y.1.1 y.1.2.2.2.1).bind fun a=>
 bif((a.toNat:Int) !=(61:Int)) then
(aQ y.1.1 y.1.2.2.2.1).bind fun b=>
 bif((b.toNat:Int) !=(62:Int)) then
(aQ y.1.1 y.1.2.2.2.1).bind fun c=>
 bif((c.toNat:Int) !=(60:Int)) then
 some (.inl ((y.1.1,(),y.1.2.2.1,(IntKind.i64.wrap (y.1.2.2.2.1+(1:Int))),()),(y.2.1.1,y.2.1.2.1,y.2.1.2.2.1,()),()))
else
 some (.inr ((y.1.1,(),y.1.2.2.1,y.1.2.2.2.1,()),(y.2.1.1,y.2.1.2.1,y.2.1.2.2.1,()),()))
else
 some (.inr ((y.1.1,(),y.1.2.2.1,y.1.2.2.2.1,()),(y.2.1.1,y.2.1.2.1,y.2.1.2.2.1,()),()))
else
 some (.inr ((y.1.1,(),y.1.2.2.1,y.1.2.2.2.1,()),(y.2.1.1,y.2.1.2.1,y.2.1.2.2.1,()),()))
else
 some (.inr ((y.1.1,(),y.1.2.2.1,y.1.2.2.2.1,()),(y.2.1.1,y.2.1.2.1,y.2.1.2.2.1,()),()))
noncomputable def BA:Be.J->Option (aF Ic):=bu rG
theorem ajl:aX Z (ap (codeOf Tryz.f198) 1 28) (bb Be Ic BA):=bW DW (by kernel_rfl) aj fun y=>by kernel_rfl
abbrev Pm:Shape:=⟨[aq 0,a8 2 2 0,aC 3,a8 5 5 0,aq 6,ad 7,aq 8],[a7 2 [ax,bz,ax],a7 5 [ax,bz,ax]],75⟩
abbrev Pc:List aR:=[(.norm,⟨[aq 0,a8 2 2 0,aC 3,a8 5 5 0,aq 6,ad 7,aq 8,aC 58],[a7 2 [ax,bz,ax],a7 5 [ax,bz,ax]],75⟩)]
noncomputable def FI(y:Pm.J):Option (aF Pc):=
 bif(decide ((y.1.2.2.2.2.1.length:Int)>=(y.1.2.2.2.2.2.2.1.length:Int))) then
(bD y.1.2.2.2.2.1 (0:Int) (y.1.2.2.2.2.2.2.1.length:Int)).bind fun a=>
 some ((y.1.1,(),y.1.2.2.1,(),y.1.2.2.2.2.1,y.1.2.2.2.2.2.1,y.1.2.2.2.2.2.2.1,(a==y.1.2.2.2.2.2.2.1),()),(y.2.1.1,y.2.1.2.1,y.2.1.2.2.1,()),(y.2.2.1.1,y.2.2.1.2.1,y.2.2.1.2.2.1,()),())
else
 some ((y.1.1,(),y.1.2.2.1,(),y.1.2.2.2.2.1,y.1.2.2.2.2.2.1,y.1.2.2.2.2.2.2.1,false,()),(y.2.1.1,y.2.1.2.1,y.2.1.2.2.1,()),(y.2.2.1.1,y.2.2.1.2.1,y.2.2.1.2.2.1,()),())
theorem ad0:aX Z (ap (di (ap (codeOf Tryz.f198) 1 506)) 1012 32402) (bb Pm Pc FI):=c8 DW (by kernel_rfl) aj fun y=>by kernel_rfl
abbrev AD:Shape:=⟨[aq 0,a8 2 2 0,aC 3,a8 5 5 0,aq 6,ad 7],[a7 2 [ax,bz,ax],a7 5 [ax,bz,ax]],75⟩
abbrev GW:List aR:=[(.exit 2,⟨[aq 0,a8 2 2 0,aC 3,a8 5 5 0],[a7 2 [ax,bz,ax],a7 5 [ax,bz,ax]],75⟩)]
noncomputable def wz(y:AD.J):bR AD GW:=
 bif(decide (y.1.2.2.2.2.2.1<=(3:Int))) then
(f232 ((y.1.2.2.2.2.2.1,()),())).bind fun a=>
(FI ((y.1.1,(),y.1.2.2.1,(),y.1.2.2.2.2.1,y.1.2.2.2.2.2.1,a.1.1,()),(y.2.1.1,y.2.1.2.1,y.2.1.2.2.1,()),(y.2.2.1.1,y.2.2.1.2.1,y.2.2.1.2.2.1,()),())).bind fun b=>
 bif b.1.2.2.2.2.2.2.2.1 then
(bD b.1.2.2.2.2.1 (b.1.2.2.2.2.2.2.1.length:Int) (b.1.2.2.2.2.1.length:Int)).bind fun c=>
 some (.inl ((b.1.1,(),b.1.2.2.1,(),b.1.2.2.2.2.1,(IntKind.i64.wrap (b.1.2.2.2.2.2.1+(1:Int))),()),(b.2.1.1,b.2.1.2.1,b.2.1.2.2.1,()),(b.2.2.1.1,b.1.2.2.2.2.2.1,c,()),()))
else
 some (.inl ((b.1.1,(),b.1.2.2.1,(),b.1.2.2.2.2.1,(IntKind.i64.wrap (b.1.2.2.2.2.2.1+(1:Int))),()),(b.2.1.1,b.2.1.2.1,b.2.1.2.2.1,()),(b.2.2.1.1,b.2.2.1.2.1,b.2.2.1.2.2.1,()),()))
else
 some (.inr ((y.1.1,(),y.1.2.2.1,(),()),(y.2.1.1,y.2.1.2.1,y.2.1.2.2.1,()),(y.2.2.1.1,y.2.2.1.2.1,y.2.2.1.2.2.1,()),()))
noncomputable def Hl:AD.J->Option (aF GW):=bu wz
theorem ahy:aX Z (ap (codeOf Tryz.f198) 1 506) (bb AD GW Hl):=bW DW (by kernel_rfl) (bd ad0 aj) fun y=>by kernel_rfl
abbrev i198:Shape:=⟨[aq 0],[],75⟩
abbrev Wu:Shape:=⟨[a8 2 2 0,aC 3],[a7 2 [ax,bz,ax]],75⟩
noncomputable def f198(a:i198.J):Option Wu.J:=
(BA ((a.1.1,(),false,(0:Int),()),(([]:F),(0:Int),([]:F),()),())).bind fun b=>
(bD b.1.1 (0:Int) b.1.2.2.2.1).bind fun c=>
(bD b.1.1 b.1.2.2.2.1 (b.1.1.length:Int)).bind fun d=>
(Hl ((b.1.1,(),b.1.2.2.1,(),d,(1:Int),()),(b.2.1.1,b.2.1.2.1,b.2.1.2.2.1,()),(c,(0:Int),([]:F),()),())).bind fun e=>
(f233 (((e.2.2.1.1,e.2.2.1.2.1,e.2.2.1.2.2.1,()),()),())).bind fun f=>
 bif f.1.1 then
(f234 (((e.2.2.1.1,e.2.2.1.2.1,e.2.2.1.2.2.1,()),()),())).bind fun g=>
 some (((),(g.1.1==e.1.1),()),(e.2.2.1.1,e.2.2.1.2.1,e.2.2.1.2.2.1,()),())
else
 some (((),false,()),(e.2.2.1.1,e.2.2.1.2.1,e.2.2.1.2.2.1,()),())
noncomputable def Yn:aK:=a6 ak Tryz.f198 i198 Wu [] f198
theorem z198:aL Z 198 Yn:=ba DW Tryz.func198 (by kernel_rfl) (bd ajl (bd ahy aj)) (fun y=>by kernel_rfl) fun a=>by kernel_rfl
theorem ajY(s:F)(hs:s.length<=1000000000):∀(t a:F),s=a++t->(∀y,y∈a->fe.contains y=false)->
  ∃cP be:F,BA ((s,((),(false,((a.length:Int),())))),((([]:F),((0:Int),(([]:F),()))),()))=some ((s,((),(false,((cP.length:Int),())))),((([]:F),((0:Int),(([]:F),()))),()))/\s=cP++be/\(∀y,y∈cP->fe.contains y=false)/\(be=[]\/∃x r,be=x::r/\fe.contains x=true):=by
 intro t;induction t with
 |nil=>
  intro a h1 h2;refine⟨a,[],cx ?_,h1,h2,.inl rfl⟩;have d:decide (((a.length:Nat):Int)<(s.length:Int))=false:=decide_eq_false (by rw[h1];simp)
  simp only[rG,d,cond_false]
 |cons b r ih=>
  intro a h1 h2;have hl:s.length=a.length+1+r.length:=by rw[h1];simp;omega
  have d:decide (((a.length:Nat):Int)<(s.length:Int))=true:=decide_eq_true (by omega)
  have hx:aQ s (a.length:Int)=some b:=by
   rw[cc,h1,List.getElem?_append_right (by omega)];simp
  have hw:IntKind.i64.wrap (((a.length:Nat):Int)+1)=((a.length+1:Nat):Int):=b6 (by unfold am;omega)
  cases hb:fe.contains b with
  |true=>
   refine⟨a,b::r,cx ?_,h1,h2,.inr ⟨b,r,rfl,hb⟩⟩;have hc:b=61\/b=60\/b=62:=by simpa[fe] using hb
   rcases hc with rfl|rfl|rfl
   ·have t1:((((61:UInt8).toNat:Nat):Int) !=61)=false:=rfl;simp only[rG,d,cond_true,hx,Option.bind_some,t1,cond_false]
   ·have t1:((((60:UInt8).toNat:Nat):Int) !=61)=true:=rfl;have t2:((((60:UInt8).toNat:Nat):Int) !=62)=true:=rfl;have t3:((((60:UInt8).toNat:Nat):Int) !=60)=false:=rfl;simp only[rG,d,cond_true,hx,Option.bind_some,t1,t2,t3,cond_false]
   ·have t1:((((62:UInt8).toNat:Nat):Int) !=61)=true:=rfl;have t2:((((62:UInt8).toNat:Nat):Int) !=62)=false:=rfl;simp only[rG,d,cond_true,hx,Option.bind_some,t1,t2,cond_false]
  |false=>
   have hc:¬(b=61\/b=60\/b=62):=by
    intro h;rcases h with rfl|rfl|rfl<;>revert hb<;>decide
   have ne:∀k:UInt8,b≠k->(((b.toNat:Nat):Int) !=(k.toNat:Int))=true:=fun k hk=>by
    rw[bne_iff_ne];intro h;exact hk (UInt8.toNat_inj.1 (by omega))
   have t1:(((b.toNat:Nat):Int) !=61)=true:=ne 61 fun h=>hc (.inl h)
   have t2:(((b.toNat:Nat):Int) !=62)=true:=ne 62 fun h=>hc (.inr (.inr h))
   have t3:(((b.toNat:Nat):Int) !=60)=true:=ne 60 fun h=>hc (.inr (.inl h))
   have st:rG ((s,((),(false,((a.length:Int),())))),((([]:F),((0:Int),(([]:F),()))),()))=some (.inl ((s,((),(false,(((a.length+1:Nat):Int),())))),((([]:F),((0:Int),(([]:F),()))),()))):=by
    simp only[rG,d,cond_true,hx,Option.bind_some,t1,t2,t3,hw]
   obtain⟨cP,be,g1,g2⟩:=ih (a++[b]) (by rw[h1];simp) (fun y hy=>by
    rcases List.mem_append.1 hy with hy|hy
    ·exact h2 y hy
    ·rw[List.mem_singleton.1 hy];exact hb)
   rw[show(a++[b]).length=a.length+1 by simp] at g1
   exact⟨cP,be,(dL st).trans g1,g2⟩
def jG(t:F)(k:Int)(q:Int×F):Int×F:=match dZ (dN k) t with|some r=>(k,r)|none=>q
theorem IG(s t bN v:F)(k q:Int)(h:k<=3)(h0:0<=k):
  wz ((s,((),(false,((),(t,(k,())))))),((([]:F),((0:Int),(([]:F),()))),((bN,(q,(v,()))),())))=some (.inl ((s,((),(false,((),(t,(k+1,())))))),((([]:F),((0:Int),(([]:F),()))),((bN,((jG t k (q,v)).1,((jG t k (q,v)).2,()))),())))):=by
 have d:decide (k<=3)=true:=decide_eq_true h;have e:=QW k;have hw:IntKind.i64.wrap (k+1)=k+1:=c' (by omega) (by omega)
 unfold jG dZ;have Y:decide (((t.length:Nat):Int)>=(((dN k).length:Nat):Int))=decide ((dN k).length<=t.length):=by congr 1;apply propext;omega
 simp only[wz,d,cond_true,e,Option.bind_some,FI,Y];cases hc:decide ((dN k).length<=t.length) with
 |false=>simp only[cond_false,Option.bind_some,Bool.false_and,hw]
 |true=>
  have hle:=of_decide_eq_true hc;have e1:bD t 0 (((dN k).length:Nat):Int)=some (t.take (dN k).length):=iJ hle;have e2:bD t (((dN k).length:Nat):Int) ((t.length:Nat):Int)=some (t.drop (dN k).length):=hI hle;simp only[cond_true,e1,Option.bind_some,Bool.true_and];cases t.take (dN k).length==dN k with
  |false=>simp only[cond_false,hw]
  |true=>simp only[cond_true,e2,Option.bind_some,hw]
theorem afi:∀{a cP t be:F},a++t=cP++be->(∀y,y∈a->fe.contains y=false)->(∀y,y∈cP->fe.contains y=false)->(t=[]\/∃x r,t=x::r/\fe.contains x=true)->(be=[]\/∃x r,be=x::r/\fe.contains x=true)->a=cP/\t=be:=by
 intro a;induction a with
 |nil=>
  intro cP t be h h1 h2 h3 aE;cases cP with
  |nil=>exact⟨rfl,h⟩
  |cons b r=>
   have hb:=h2 b List.mem_cons_self;rcases h3 with rfl|⟨x,eE,rfl,hx⟩
   ·cases h
   ·have:x=b:=by simp at h;exact h.1
    rw[this,hb] at hx;cases hx
 |cons b a ih=>
  intro cP t be h h1 h2 h3 aE;cases cP with
  |nil=>
   have hb:=h1 b List.mem_cons_self;rcases aE with rfl|⟨x,eE,rfl,hx⟩
   ·cases h
   ·have:b=x:=by simp at h;exact h.1
    rw[<-this,hb] at hx;cases hx
  |cons bf cP=>
   simp only[List.cons_append,List.cons.injEq] at h;obtain⟨rfl,h⟩:=h;obtain⟨e1,e2⟩:=ih h (fun y hy=>h1 y (List.mem_cons_of_mem _ hy)) (fun y hy=>h2 y (List.mem_cons_of_mem _ hy)) h3 aE
   exact⟨by rw[e1],e2⟩
def fS(t:F):Int×F:=jG t 3 (jG t 2 (jG t 1 (0,[])))
theorem IH(t:F)(k:Int)(q:Int×F)(h:q.2.length<=t.length):(jG t k q).2.length<=t.length:=by
 unfold jG;split
 ·rename_i r hr;exact QL hr
 ·exact h
theorem SQ(t:F):(fS t).2.length<=t.length:=IH t 3 _ (IH t 2 _ (IH t 1 _ (Nat.zero_le _)))
theorem R4(s:F)(hs:s.length<=2000000):∃(a t:F) (ok:Bool),f198 ((s,()),())=some (((),(ok,())),((a,((fS t).1,((fS t).2,()))),()))/\s=a++t/\(∀y,y∈a->fe.contains y=false)/\(t=[]\/∃x r,t=x::r/\fe.contains x=true):=by
 obtain⟨a,t,g1,h1,h2,h3⟩:=ajY s (by omega) s [] rfl (fun y hy=>by cases hy)
 have g1:BA ((s,((),(false,((0:Int),())))),((([]:F),((0:Int),(([]:F),()))),()))=_:=g1;have hl:s.length=a.length+t.length:=by rw[h1];simp
 have e1:bD s 0 ((a.length:Nat):Int)=some a:=by rw[iJ (by omega),h1];simp
 have e2:bD s ((a.length:Nat):Int) ((s.length:Nat):Int)=some t:=by rw[hI (by omega),h1];simp
 have s1:=IG s t a [] 1 0 (by decide) (by decide)
 have s2:=IG s t a (jG t 1 (0,[])).2 2 (jG t 1 (0,[])).1 (by decide) (by decide)
 have im:=IG s t a (jG t 2 (jG t 1 (0,[]))).2 3 (jG t 2 (jG t 1 (0,[]))).1 (by decide) (by decide)
 have aaz:wz ((s,((),(false,((),(t,((3:Int)+1,())))))),((([]:F),((0:Int),(([]:F),()))),((a,((fS t).1,((fS t).2,()))),())))=some (.inr ((s,((),(false,((),())))),((([]:F),((0:Int),(([]:F),()))),((a,((fS t).1,((fS t).2,()))),())))):=by
  have d:decide ((3:Int)+1<=3)=false:=by decide
  simp only[wz,d,cond_false]
 have g2:Hl ((s,((),(false,((),(t,((1:Int),())))))),((([]:F),((0:Int),(([]:F),()))),((a,((0:Int),(([]:F),()))),())))=some ((s,((),(false,((),())))),((([]:F),((0:Int),(([]:F),()))),((a,((fS t).1,((fS t).2,()))),()))):=
  (dL s1).trans ((dL s2).trans ((dL im).trans (cx aaz)))
 have hv:=SQ t;have bp:=Q2 (((a,((fS t).1,((fS t).2,()))),()),()) (by show a.length<=2097152;omega) (by show(fS t).2.length<=2097152;omega)
 have dU:=R3 ⟨a,(fS t).1,(fS t).2⟩ ⟨by show a.length<=2097152;omega,by show(fS t).2.length<=2097152;omega⟩
 refine⟨a,t,dB ⟨a,(fS t).1,(fS t).2⟩&&cS ⟨a,(fS t).1,(fS t).2⟩==s,?_,h1,h2,h3⟩;simp only[f198,g1,Option.bind_some,e1,e2,g2,bp];cases dB ⟨a,(fS t).1,(fS t).2⟩ with
 |false=>rfl
 |true=>
  simp only[cond_true,dU,Option.bind_some];rfl
theorem acD(s:F)(hs:s.length<=2000000):∃(n:bG) (ok:Bool),f198 ((s,()),())=some (((),(ok,())),((n.name,(n.kind,(n.aW,()))),()))/\n.name.length<=s.length/\n.aW.length<=s.length:=by
 obtain⟨a,t,ok,h,h1,_⟩:=R4 s hs;have hv:=SQ t;have hl:s.length=a.length+t.length:=by rw[h1];simp
 exact⟨⟨a,(fS t).1,(fS t).2⟩,ok,h,by show a.length<=_;omega,by show(fS t).2.length<=_;omega⟩
theorem acC{n:bG}(h:dB n=true)(hs:(cS n).length<=2000000):∃ok:Bool,f198 ((cS n,()),())=some (((),(ok,())),((n.name,(n.kind,(n.aW,()))),())):=by
 obtain⟨a,t,ok,e,h1,h2,h3⟩:=R4 (cS n) hs;obtain⟨aw,an⟩:=zu h;have hno:=Rl (Fh aw);obtain⟨bN,k,v⟩:=n;have key:∀be:F,cS ⟨bN,k,v⟩=bN++be->(be=[]\/∃x r,be=x::r/\fe.contains x=true)->fS be=(k,v)->∃ok:Bool,f198 ((cS ⟨bN,k,v⟩,()),())=some (((),(ok,())),((bN,(k,(v,()))),())):=by
  intro be q1 q2 dq;obtain⟨e1,e2⟩:=afi (h1.symm.trans q1) h2 hno h3 q2;subst e1 e2;rw[dq] at e;exact⟨ok,e⟩
 rcases an with⟨hk,hv⟩|⟨hk,hv⟩
 ·have hk:k=0:=hk;have hv:v=[]:=hv;subst hk hv;exact key [] (by unfold cS dN;simp) (.inl rfl) (by decide)
 ·rcases hk with hk|hk|hk
  ·have hk:k=1:=hk;subst hk;refine key (61::v) (by unfold cS dN;simp) (.inr ⟨61,v,rfl,by decide⟩) ?_
   have d1:dZ (dN 1) (61::v)=some v:=wg [61] v;have d2:dZ (dN 2) (61::v)=none:=by unfold dZ;cases v<;>simp[dN]
   have d3:dZ (dN 3) (61::v)=none:=by unfold dZ;simp[dN]
   simp only[fS,jG,d1,d2,d3]
  ·have hk:k=2:=hk;subst hk;refine key (62::61::v) (by unfold cS dN;simp) (.inr ⟨62,61::v,rfl,by decide⟩) ?_
   have d1:dZ (dN 1) (62::61::v)=none:=by unfold dZ;simp[dN]
   have d2:dZ (dN 2) (62::61::v)=some v:=wg [62,61] v;have d3:dZ (dN 3) (62::61::v)=none:=by unfold dZ;simp[dN]
   simp only[fS,jG,d1,d2,d3]
  ·have hk:k=3:=hk;subst hk;refine key (60::v) (by unfold cS dN;simp) (.inr ⟨60,v,rfl,by decide⟩) ?_
   have d1:dZ (dN 1) (60::v)=none:=by unfold dZ;simp[dN]
   have d2:dZ (dN 2) (60::v)=none:=by unfold dZ;cases v<;>simp[dN]
   have d3:dZ (dN 3) (60::v)=some v:=wg [60] v;simp only[fS,jG,d1,d2,d3]
noncomputable abbrev aqK:bl:=[(89,vy),(90,EJ),(91,pO)]
theorem x8:bc Z (bi ak aqK):=bj ⟨yb,LY,z91,⟨⟩⟩
abbrev Rt:Shape:=⟨[a8 2 2 0,aq 3,aC 4,a' 5 3000320,a' 6 3000384],[a7 2 [ax,bz,bz,ax],bg 3000320 .str 5 0,bg 3000384 .str 6 0],110⟩
abbrev Rc:List aR:=[(.norm,⟨[a8 2 2 0,aq 3,aC 4,a' 5 3000320,a' 6 3000384,aC 18],[a7 2 [ax,bz,bz,ax],bg 3000320 .str 5 0,bg 3000384 .str 6 0],110⟩)]
noncomputable def nS(y:Rt.J):Option (aF Rc):=
(aU y.2.2.2.1.length (0:Int)).bind fun a=>
(y.2.2.2.1[a]?).bind fun b=>
 bif(b==([100,105,114]:F)) then
 some (((),y.1.2.1,y.1.2.2.1,(),(),((y.2.2.2.1.length:Int)==(3:Int)),()),(y.2.1.1,y.2.1.2.1,y.2.1.2.2.1,y.2.1.2.2.2.1,()),y.2.2.1,y.2.2.2.1,())
else
 some (((),y.1.2.1,y.1.2.2.1,(),(),false,()),(y.2.1.1,y.2.1.2.1,y.2.1.2.2.1,y.2.1.2.2.2.1,()),y.2.2.1,y.2.2.2.1,())
theorem ahx:aX Z (ap (codeOf Tryz.f199) 1 248) (bb Rt Rc nS):=c8 x8 (by kernel_rfl) aj fun y=>by kernel_rfl
abbrev Rs:Shape:=⟨[a8 2 2 0,aq 3,aC 4,a' 5 3000320,a' 6 3000384],[a7 2 [ax,bz,bz,ax],bg 3000320 .str 5 0,bg 3000384 .str 6 0],110⟩
abbrev Rb:List aR:=[(.norm,⟨[a8 2 2 0,aq 3,aC 4,a' 5 3000320,a' 6 3000384,aC 39],[a7 2 [ax,bz,bz,ax],bg 3000320 .str 5 0,bg 3000384 .str 6 0],110⟩)]
noncomputable def oW(y:Rs.J):Option (aF Rb):=
(aU y.2.2.2.1.length (0:Int)).bind fun a=>
(y.2.2.2.1[a]?).bind fun b=>
 bif(b==([108,105,110,107]:F)) then
 some (((),y.1.2.1,y.1.2.2.1,(),(),((y.2.2.2.1.length:Int)==(3:Int)),()),(y.2.1.1,y.2.1.2.1,y.2.1.2.2.1,y.2.1.2.2.2.1,()),y.2.2.1,y.2.2.2.1,())
else
 some (((),y.1.2.1,y.1.2.2.1,(),(),false,()),(y.2.1.1,y.2.1.2.1,y.2.1.2.2.1,y.2.1.2.2.2.1,()),y.2.2.1,y.2.2.2.1,())
theorem ahw:aX Z (ap (codeOf Tryz.f199) 1 998) (bb Rs Rb oW):=c8 x8 (by kernel_rfl) aj fun y=>by kernel_rfl
abbrev P_:Shape:=⟨[a8 2 2 0,aq 3,aC 4,a' 5 3000320,a' 6 3000384],[a7 2 [ax,bz,bz,ax],bg 3000320 .str 5 0,bg 3000384 .str 6 0],110⟩
abbrev PR:List aR:=[(.norm,⟨[a8 2 2 0,aq 3,aC 4,a' 5 3000320,a' 6 3000384,aC 59],[a7 2 [ax,bz,bz,ax],bg 3000320 .str 5 0,bg 3000384 .str 6 0],110⟩)]
noncomputable def p1(y:P_.J):Option (aF PR):=
(aU y.2.2.2.1.length (0:Int)).bind fun a=>
(y.2.2.2.1[a]?).bind fun b=>
 bif(b==([102,105,108,101]:F)) then
 some (((),y.1.2.1,y.1.2.2.1,(),(),((y.2.2.2.1.length:Int)==(4:Int)),()),(y.2.1.1,y.2.1.2.1,y.2.1.2.2.1,y.2.1.2.2.2.1,()),y.2.2.1,y.2.2.2.1,())
else
 some (((),y.1.2.1,y.1.2.2.1,(),(),false,()),(y.2.1.1,y.2.1.2.1,y.2.1.2.2.1,y.2.1.2.2.2.1,()),y.2.2.1,y.2.2.2.1,())
theorem afE:aX Z (ap (codeOf Tryz.f199) 1 3998) (bb P_ PR p1):=c8 x8 (by kernel_rfl) aj fun y=>by kernel_rfl
abbrev Pl:Shape:=⟨[a8 2 2 0,aq 3,aC 4,a' 5 3000320,a' 6 3000384,ad 7],[a7 2 [ax,bz,bz,ax],bg 3000320 .str 5 0,bg 3000384 .str 6 0],110⟩
abbrev Pb:List aR:=[(.norm,⟨[a8 2 2 0,aq 3,aC 4,a' 5 3000320,a' 6 3000384,ad 7,aC 88],[a7 2 [ax,bz,bz,ax],bg 3000320 .str 5 0,bg 3000384 .str 6 0],110⟩)]
noncomputable def vW(y:Pl.J):Option (aF Pb):=
(aU y.2.2.1.length (1:Int)).bind fun a=>
(y.2.2.1[a]?).bind fun b=>
(f91 ((y.1.2.2.2.2.2.1,(0:Int),(IntKind.i64.wrap ((b.length:Int)-(1:Int))),()),())).bind fun c=>
 bif(!(!c.1.1)) then
(aU y.2.2.1.length (1:Int)).bind fun d=>
(y.2.2.1[d]?).bind fun e=>
(aQ e y.1.2.2.2.2.2.1).bind fun f=>
 some (((),y.1.2.1,y.1.2.2.1,(),(),y.1.2.2.2.2.2.1,((f.toNat:Int) !=(10:Int)),()),(y.2.1.1,y.2.1.2.1,y.2.1.2.2.1,y.2.1.2.2.2.1,()),y.2.2.1,y.2.2.2.1,())
else
 some (((),y.1.2.1,y.1.2.2.1,(),(),y.1.2.2.2.2.2.1,true,()),(y.2.1.1,y.2.1.2.1,y.2.1.2.2.1,y.2.1.2.2.2.1,()),y.2.2.1,y.2.2.2.1,())
theorem adZ:aX Z (ap (codeOf Tryz.f199) 1 63988) (bb Pl Pb vW):=c8 x8 (by kernel_rfl) aj fun y=>by kernel_rfl
abbrev i199:Shape:=⟨[aq 0],[],110⟩
abbrev xK:Shape:=⟨[a8 2 2 0,aq 3,aC 4],[a7 2 [ax,bz,bz,ax]],110⟩
noncomputable def f199(a:i199.J):Option xK.J:=
(f89 ((a.1.1,(10:Int),(1:Int),()),())).bind fun b=>
 bif(decide ((b.2.1.length:Int)<(2:Int))) then
 some (((),([]:F),false,()),(([]:F),(0:Int),(0:Int),([]:F),()),())
else
(aU b.2.1.length (0:Int)).bind fun c=>
(b.2.1[c]?).bind fun d=>
(f89 ((d,(32:Int),(4:Int),()),())).bind fun e=>
(nS (((),([]:F),false,(),(),()),(([]:F),(0:Int),(0:Int),([]:F),()),b.2.1,e.2.1,())).bind fun f=>
 bif f.1.2.2.2.2.2.1 then
(aU f.2.2.2.1.length (2:Int)).bind fun g=>
(f.2.2.2.1[g]?).bind fun h=>
(aU f.2.2.2.1.length (1:Int)).bind fun i=>
(f.2.2.2.1[i]?).bind fun j=>
(f90 ((j,()),())).bind fun k=>
(aU f.2.2.1.length (1:Int)).bind fun l=>
(f.2.2.1[l]?).bind fun m=>
 some (((),m,true,()),(h,(1:Int),k.1.1,([]:F),()),())
else
(oW (((),f.1.2.1,f.1.2.2.1,(),(),()),(f.2.1.1,f.2.1.2.1,f.2.1.2.2.1,f.2.1.2.2.2.1,()),f.2.2.1,f.2.2.2.1,())).bind fun n=>
 bif n.1.2.2.2.2.2.1 then
(aU n.2.2.2.1.length (1:Int)).bind fun D=>
(n.2.2.2.1[D]?).bind fun p=>
(aU n.2.2.2.1.length (2:Int)).bind fun q=>
(n.2.2.2.1[q]?).bind fun r=>
(aU n.2.2.1.length (1:Int)).bind fun s=>
(n.2.2.1[s]?).bind fun t=>
 some (((),t,true,()),(p,(3:Int),(0:Int),r,()),())
else
(p1 (((),n.1.2.1,n.1.2.2.1,(),(),()),(n.2.1.1,n.2.1.2.1,n.2.1.2.2.1,n.2.1.2.2.2.1,()),n.2.2.1,n.2.2.2.1,())).bind fun u=>
 bif u.1.2.2.2.2.2.1 then
(aU u.2.2.2.1.length (3:Int)).bind fun v=>
(u.2.2.2.1[v]?).bind fun w=>
(f90 ((w,()),())).bind fun x=>
(vW (((),u.1.2.1,u.1.2.2.1,(),(),x.1.1,()),(u.2.1.1,u.2.1.2.1,u.2.1.2.2.1,u.2.1.2.2.2.1,()),u.2.2.1,u.2.2.2.1,())).bind fun y=>
 bif y.1.2.2.2.2.2.2.1 then
 some (((),([]:F),false,()),(([]:F),(0:Int),(0:Int),([]:F),()),())
else
(aU y.2.2.2.1.length (2:Int)).bind fun z=>
(y.2.2.2.1[z]?).bind fun A=>
(aU y.2.2.2.1.length (1:Int)).bind fun bx=>
(y.2.2.2.1[bx]?).bind fun C=>
(f90 ((C,()),())).bind fun aJ=>
(aU y.2.2.1.length (1:Int)).bind fun E=>
(y.2.2.1[E]?).bind fun aO=>
(bD aO (0:Int) y.1.2.2.2.2.2.1).bind fun G=>
(aU y.2.2.1.length (1:Int)).bind fun H=>
(y.2.2.1[H]?).bind fun I=>
(bD I (IntKind.i64.wrap (y.1.2.2.2.2.2.1+(1:Int))) (I.length:Int)).bind fun fA=>
 some (((),fA,true,()),(A,(2:Int),aJ.1.1,G,()),())
else
 some (((),([]:F),false,()),(([]:F),(0:Int),(0:Int),([]:F),()),())
noncomputable def Ym:aK:=a6 ak Tryz.f199 i199 xK [] f199
theorem an9:aL Z 199 Ym:=ba x8 Tryz.func199 (by kernel_rfl) (bd ahx (bd ahw (bd afE (bd adZ aj)))) (fun y=>by kernel_rfl) fun a=>by kernel_rfl
def hM(s:F):Int:=bif s.all cU&&decide (s.length<=6)&&!(s==[])&&!iN s then df s else-1
theorem rl(s:F)(hs:am s.length):f90 ((s,()),())=some ((hM s,()),()):=HV ((s,()),()) hs
theorem F'(n:Nat)(h:n<1000000):hM (Lib.itoa (n:Int))=(n:Int):=by
 have h1:=rl (Lib.itoa (n:Int)) (by rw[rr];have:=HO 5 n (by omega);unfold am;omega)
 rw[aeg n h] at h1;simp only[Option.some.injEq,Prod.mk.injEq] at h1;exact h1.1.1.symm
def sp(aP w2 cr r:F):Option (aG×F):=bif within (hM cr) 0 ((r.length:Int)-1) then(match r.drop (hM cr).toNat with|10::eE=>some (⟨w2,2,hM aP,r.take (hM cr).toNat⟩,eE)|_=>none) else none
def gL(ws:List F)(r:F):Option (aG×F):=match ws with
 |[O,aP,w2]=>bif O==iA then some (⟨w2,1,hM aP,[]⟩,r) else bif O==iy then some (⟨aP,3,0,w2⟩,r) else none
 |[O,aP,w2,cr]=>bif O==iO then sp aP w2 cr r else none
 |_=>none
def ou(s:F):Option (aG×F):=match dv 10 s with
 |some (bV,r)=>gL (splitN 32 4 bV) r
 |none=>none
abbrev vJ(D:Bool)(e:aG)(r:F):xK.J:=(((),(r,(D,()))),((e.path,(e.kind,(e.mode,(e.text,())))),()))
theorem u'{n:Nat}(h:0<n):aU n (0:Int)=some 0:=gg h
theorem Mh{n:Nat}(h:1<n):aU n (1:Int)=some 1:=gg h
theorem Z4{n:Nat}(h:2<n):aU n (2:Int)=some 2:=gg h
theorem Z3{n:Nat}(h:3<n):aU n (3:Int)=some 3:=gg h
theorem QY(s:F)(hs:s.length<=2000000):∃(r:F) (e:aG),f199 ((s,()),())=some (vJ (ou s).isSome e r)/\∀q,ou s=some q->q=(e,r):=by
 have c1:=mL 10 s (by omega) 1
 have c1:f89 ((s,((10:Int),((1:Int),()))),())=_:=c1;have zero:∀{D:Option (aG×F)} {x:Option xK.J},D=none->x=some (vJ false ⟨[],0,0,[]⟩ [])->∃(r:F) (e:aG),x=some (vJ D.isSome e r)/\∀q,D=some q->q=(e,r):=by
  intro D x ay hx;subst ay;exact⟨[],⟨[],0,0,[]⟩,hx,fun q al=>by cases al⟩
 have one:∀{D:Option (aG×F)} {x:Option xK.J} {e:aG} {r:F},D=some (e,r)->x=some (vJ true e r)->∃(r:F) (e:aG),x=some (vJ D.isSome e r)/\∀q,D=some q->q=(e,r):=by
  intro D x e r ay hx;subst ay;exact⟨r,e,hx,fun q al=>by cases al;rfl⟩
 cases al:dv 10 s with
 |none=>
  have ef:splitN 10 1 s=[s]:=by unfold splitN;rw[al]
  rw[ef] at c1;refine zero (by unfold ou;rw[al]) ?_
  have d:decide ((([s]:List F).length:Int)<2)=true:=rfl;simp only[f199,c1,Option.bind_some,d,cond_true]
 |some q=>
  obtain⟨bV,rest⟩:=q;have hl:=(jO al).1;have hl:s.length=bV.length+1+rest.length:=by rw[hl];simp;omega
  have ef:splitN 10 1 s=[bV,rest]:=by unfold splitN;rw[al];rfl
  rw[ef] at c1;have c2:=mL 32 bV (by omega) 4
  have c2:f89 ((bV,((32:Int),((4:Int),()))),())=_:=c2;have hr:ou s=gL (splitN 32 4 bV) rest:=by unfold ou;rw[al]
  have hm:=rc 32 4 bV;have hp:=Pe 32 4 bV;rw[hr];generalize splitN 32 4 bV=ws at c2 hm hp;have d:decide ((([bV,rest]:List F).length:Int)<2)=false:=rfl;have i0:aU ([bV,rest]:List F).length (0:Int)=some 0:=rfl;have i1:aU ([bV,rest]:List F).length (1:Int)=some 1:=rfl;have fG:([bV,rest]:List F)[0]? =some bV:=rfl;have eD:([bV,rest]:List F)[1]? =some rest:=rfl;have xX:∀w:F,(w==([100,105,114]:F))=(w==iA):=fun _=>rfl
  have Db:∀w:F,(w==([108,105,110,107]:F))=(w==iy):=fun _=>rfl
  have uy:∀w:F,(w==([102,105,108,101]:F))=(w==iO):=fun _=>rfl
  have other:∀(O:F) (more:List F),ws=O::more->((ws.length:Int)==3)=false->((ws.length:Int)==4)=false->gL ws rest=none->∃(r:F) (e:aG),f199 ((s,()),())=some (vJ (gL ws rest).isSome e r)/\∀q,gL ws rest=some q->q=(e,r):=by
   intro O more hw h3 aE h;refine zero h ?_
   have io:aU ws.length (0:Int)=some 0:=u' (by omega)
   have dE:ws[0]? =some O:=by rw[hw];rfl
   simp only[f199,c1,Option.bind_some,d,cond_false,i0,fG,c2,nS,io,dE,h3];cases O==([100,105,114]:F)<;>simp only[cond_true,cond_false,Option.bind_some,oW,io,dE,h3]<;>cases O==([108,105,110,107]:F)<;>simp only[cond_true,cond_false,Option.bind_some,p1,io,dE,aE]<;>cases O==([102,105,108,101]:F)<;>rfl
  match ws,other,c2,hm,hp with
  |[],other,c2,hm,hp=>exact absurd hp (by decide)
  |[O],other,c2,hm,hp=>exact other O [] rfl rfl rfl rfl
  |[O,aP],other,c2,hm,hp=>exact other O [aP] rfl rfl rfl rfl
  |O::aP::w2::cr::pP::more,other,c2,hm,hp=>exact other O _ rfl (by rw[beq_eq_false_iff_ne];simp;omega) (by rw[beq_eq_false_iff_ne];simp;omega) rfl
  |[O,aP,w2],_,c2,hm,hp=>
   have io:aU ([O,aP,w2]:List F).length (0:Int)=some 0:=rfl;have mH:aU ([O,aP,w2]:List F).length (1:Int)=some 1:=rfl;have q6:aU ([O,aP,w2]:List F).length (2:Int)=some 2:=rfl;have dE:([O,aP,w2]:List F)[0]? =some O:=rfl;have eV:([O,aP,w2]:List F)[1]? =some aP:=rfl;have d':([O,aP,w2]:List F)[2]? =some w2:=rfl;have h3:((([O,aP,w2]:List F).length:Int)==3)=true:=rfl;have aE:((([O,aP,w2]:List F).length:Int)==4)=false:=rfl;have m1:=hm aP (by simp)
   have n1:=rl aP (by unfold am;omega)
   cases fc:O==iA with
   |true=>
    refine one (show gL [O,aP,w2] rest=some (⟨w2,1,hM aP,[]⟩,rest) by unfold gL;simp only[fc,cond_true]) ?_
    simp only[f199,c1,Option.bind_some,d,cond_false,i0,fG,c2,nS,io,dE,h3,xX,fc,cond_true,q6,d',mH,eV,n1,i1,eD]
   |false=>
    cases e1:O==iy with
    |true=>
     refine one (show gL [O,aP,w2] rest=some (⟨aP,3,0,w2⟩,rest) by unfold gL;simp only[fc,e1,cond_true,cond_false]) ?_
     simp only[f199,c1,Option.bind_some,d,cond_false,i0,fG,c2,nS,io,dE,h3,xX,fc,cond_true,q6,d',mH,eV,i1,eD,oW,Db,e1]
    |false=>
     refine zero (show gL [O,aP,w2] rest=none by unfold gL;simp only[fc,e1,cond_false]) ?_
     simp only[f199,c1,Option.bind_some,d,cond_false,i0,fG,c2,nS,io,dE,h3,aE,xX,fc,oW,Db,e1,p1];cases O==([102,105,108,101]:F)<;>rfl
  |[O,aP,w2,cr],_,c2,hm,hp=>
   have io:aU ([O,aP,w2,cr]:List F).length (0:Int)=some 0:=rfl;have mH:aU ([O,aP,w2,cr]:List F).length (1:Int)=some 1:=rfl;have q6:aU ([O,aP,w2,cr]:List F).length (2:Int)=some 2:=rfl;have NB:aU ([O,aP,w2,cr]:List F).length (3:Int)=some 3:=rfl;have dE:([O,aP,w2,cr]:List F)[0]? =some O:=rfl;have eV:([O,aP,w2,cr]:List F)[1]? =some aP:=rfl;have d':([O,aP,w2,cr]:List F)[2]? =some w2:=rfl;have nK:([O,aP,w2,cr]:List F)[3]? =some cr:=rfl;have h3:((([O,aP,w2,cr]:List F).length:Int)==3)=false:=rfl;have aE:((([O,aP,w2,cr]:List F).length:Int)==4)=true:=rfl;have m1:=hm aP (by simp)
   have m3:=hm cr (by simp)
   have n1:=rl aP (by unfold am;omega)
   have e0:=rl cr (by unfold am;omega)
   have b1:∀b:Bool,(bif b then some ((((),(([]:F),(false,((),((),(false,())))))),((([]:F),((0:Int),((0:Int),(([]:F),())))),([bV,rest],([O,aP,w2,cr],()))))) else some ((((),(([]:F),(false,((),((),(false,())))))),((([]:F),((0:Int),((0:Int),(([]:F),())))),([bV,rest],([O,aP,w2,cr],()))))))=some ((((),(([]:F),(false,((),((),(false,())))))),((([]:F),((0:Int),((0:Int),(([]:F),())))),([bV,rest],([O,aP,w2,cr],()))))):=fun b=>by cases b<;>rfl
   cases e2:O==iO with
   |false=>
    refine zero (show gL [O,aP,w2,cr] rest=none by unfold gL;simp only[e2,cond_false]) ?_
    simp only[f199,c1,Option.bind_some,d,cond_false,i0,fG,c2,nS,io,dE,h3,aE,b1,oW,p1,uy,e2]
   |true=>
    have hw:gL [O,aP,w2,cr] rest=sp aP w2 cr rest:=by unfold gL;simp only[e2,cond_true]
    rw[hw];have j3:IntKind.i64.wrap (((rest.length:Nat):Int)-1)=(rest.length:Int)-1:=c' (by omega) (by omega)
    have hin:=o7 ((hM cr,((0:Int),((rest.length:Int)-1,()))),());have hin:f91 ((hM cr,((0:Int),((rest.length:Int)-1,()))),())=some ((within (hM cr) 0 ((rest.length:Int)-1),()),()):=hin;cases hi:within (hM cr) 0 ((rest.length:Int)-1) with
    |false=>
     rw[hi] at hin;refine zero (by unfold sp;rw[hi];rfl) ?_
     simp only[f199,c1,Option.bind_some,d,cond_false,i0,fG,c2,nS,io,dE,h3,aE,b1,oW,p1,uy,e2,cond_true,NB,nK,e0,vW,i1,eD,j3,hin,Bool.not_false,Bool.not_true]
    |true=>
     rw[hi] at hin;have hb:=tr hi;obtain⟨n,hn⟩:∃n:Nat,hM cr=(n:Int):=⟨(hM cr).toNat,by omega⟩
     rw[hn] at hin e0 hb;have hlt:n<rest.length:=by omega
     have dt:sp aP w2 cr rest=match rest.drop n with|10::eE=>some (⟨w2,2,hM aP,rest.take n⟩,eE)|_=>none:=by
      unfold sp;rw[hi,hn];rfl
     have xz:rest.drop n=rest[n]::rest.drop (n+1):=List.drop_eq_getElem_cons hlt;have hx:aQ rest ((n:Nat):Int)=some rest[n]:=by rw[cc];exact List.getElem?_eq_getElem hlt
     rw[xz] at dt;rw[dt];generalize rest[n]=b at hx;by_cases pI:b=10
     ·subst pI;have t1:((((10:UInt8).toNat:Nat):Int) !=10)=false:=rfl;have s1:bD rest 0 ((n:Nat):Int)=some (rest.take n):=iJ (by omega)
      have asu:IntKind.i64.wrap (((n:Nat):Int)+1)=((n+1:Nat):Int):=b6 (by unfold am;omega)
      have s2:bD rest ((n+1:Nat):Int) ((rest.length:Nat):Int)=some (rest.drop (n+1)):=hI (by omega)
      refine one rfl ?_
      simp only[f199,c1,Option.bind_some,d,cond_false,i0,fG,c2,nS,io,dE,h3,aE,b1,oW,p1,uy,e2,cond_true,NB,nK,e0,vW,i1,eD,j3,hin,Bool.not_false,Bool.not_true,hx,t1,q6,d',mH,eV,n1,s1,asu,s2]
     ·have t1:(((b.toNat:Nat):Int) !=10)=true:=by
       rw[bne_iff_ne];intro h;exact pI (UInt8.toNat_inj.1 (by have:((10:UInt8).toNat:Int)=10:=rfl;omega))
      refine zero (by split<;>first|rfl|(rename_i h;simp at h;exact absurd h.1 pI)) ?_
      simp only[f199,c1,Option.bind_some,d,cond_false,i0,fG,c2,nS,io,dE,h3,aE,b1,oW,p1,uy,e2,cond_true,NB,nK,e0,vW,i1,eD,j3,hin,Bool.not_false,Bool.not_true,hx,t1]
theorem SA{s r:F}{e:aG}(h:ou s=some (e,r)):e.path.length<=s.length/\e.text.length<=s.length/\r.length<s.length:=by
 unfold ou at h;cases al:dv 10 s with
 |none=>rw[al] at h;cases h
 |some q=>
  obtain⟨bV,rest⟩:=q;rw[al] at h;have hl:=(jO al).1;have hl:s.length=bV.length+1+rest.length:=by rw[hl];simp;omega
  have hm:=rc 32 4 bV;have h:gL (splitN 32 4 bV) rest=some (e,r):=h;generalize splitN 32 4 bV=ws at h hm;unfold gL at h;split at h
  ·rename_i O aP w2;have m1:=hm aP (by simp)
   have m2:=hm w2 (by simp)
   cases fc:O==iA<;>simp only[fc,cond_true,cond_false] at h
   ·cases e1:O==iy<;>simp only[e1,cond_true,cond_false] at h
    ·cases h
    ·simp only[Option.some.injEq,Prod.mk.injEq] at h;obtain⟨rfl,rfl⟩:=h;exact⟨by show aP.length<=_;omega,by show w2.length<=_;omega,by omega⟩
   ·simp only[Option.some.injEq,Prod.mk.injEq] at h;obtain⟨rfl,rfl⟩:=h;exact⟨by show w2.length<=_;omega,by show 0<=_;omega,by omega⟩
  ·rename_i O aP w2 cr;have m2:=hm w2 (by simp)
   cases e2:O==iO<;>simp only[e2,cond_true,cond_false] at h
   ·cases h
   ·unfold sp at h;cases dU:within (hM cr) 0 ((rest.length:Int)-1)<;>simp only[dU,cond_true,cond_false] at h
    ·cases h
    ·split at h
     ·rename_i eE Y;simp only[Option.some.injEq,Prod.mk.injEq] at h;obtain⟨rfl,rfl⟩:=h;have MF:=congrArg List.length Y;simp only[List.length_drop,List.length_cons] at MF;exact⟨by show w2.length<=_;omega,by show(rest.take _).length<=_;simp;omega,by omega⟩
     ·cases h
  ·cases h
theorem aiT{e:aG}(h:fh e=true)(r:F):ou (ey e++r)=some (e,r):=by
 have hw:=(FP h).1;unfold ou;rw[Qu h];show gL (splitN 32 4 (qv e)) (xr e r)=_;obtain⟨n,hn,jo⟩:=G7 h;have g2:=F' n (by omega)
 have nx:splitN 32 4 (qv e)=mS e:=Oh _ 4 (by unfold mS;cases e.kind==1<;>cases e.kind==3<;>simp) hw (by unfold mS;cases e.kind==1<;>cases e.kind==3<;>simp)
 rw[nx];obtain⟨p,k,m,t⟩:=e;have hn:m=n:=hn;subst hn;rcases vZ h with hk|hk|hk
 ·have hk:k=1:=hk;subst hk;have ao:t=[]:=QI h rfl;subst ao;show gL [iA,Lib.itoa (n:Int),p] r=_;unfold gL;have e2:(iA==iA)=true:=by decide
  simp only[e2,g2,cond_true]
 ·have hk:k=2:=hk;subst hk;have hb:t.length<=80:=by
   have:=Pz h rfl;unfold o8 at this;simp only[Bool.and_eq_true,decide_eq_true_eq] at this;exact this.2
  have an:=F' t.length (by omega)
  show gL [iO,Lib.itoa (n:Int),p,Lib.itoa (t.length:Int)] (t++10::r)=_;unfold gL;have bp:(iO==iO)=true:=by decide
  simp only[bp,cond_true];unfold sp;have d1:(t++10::r).drop t.length=10::r:=by simp
  have d2:(t++10::r).take t.length=t:=by simp
  have hw:within (t.length:Int) 0 (((t++10::r).length:Int)-1)=true:=by
   unfold within;rw[decide_eq_true (by omega),decide_eq_true (by simp;omega)]
   rfl
  simp only[an,hw,cond_true,Int.toNat_natCast,d1,d2,g2]
 ·have hk:k=3:=hk;subst hk;obtain⟨_,hm⟩:=FM h rfl;have hm:(n:Int)=0:=hm;show gL [iy,p,t] r=_;unfold gL;have e1:(iy==iA)=false:=by decide
  have e2:(iy==iy)=true:=by decide
  simp only[e1,e2,cond_true,cond_false];rw[hm]
noncomputable abbrev aq5:bl:=[(89,vy),(198,Yn)]
theorem x9:bc Z (bi ak aq5):=bj ⟨yb,z198,⟨⟩⟩
abbrev OJ:Shape:=⟨[a8 2 2 0,a8 5 5 0,a' 6 3000384,aq 7,ad 8,a' 9 3000576],[bI 5000130 .need 2 2,bI 5000131 .entry 2 3,a7 2 [ax,ax,.own 5000130,.own 5000131],bI 5000322 .need 5 2,bI 5000323 .entry 5 3,a7 5 [ax,ax,.own 5000322,.own 5000323],bg 3000384 .str 6 0,bg 3000576 .str 9 0],118⟩
abbrev OE:List aR:=[(.norm,⟨[a8 2 2 0,a8 5 5 0,a' 6 3000384,aq 7,ad 8,a' 9 3000576,aC 52],[bI 5000130 .need 2 2,bI 5000131 .entry 2 3,a7 2 [ax,ax,.own 5000130,.own 5000131],bI 5000322 .need 5 2,bI 5000323 .entry 5 3,a7 5 [ax,ax,.own 5000322,.own 5000323],bg 3000384 .str 6 0,bg 3000576 .str 9 0],118⟩)]
noncomputable def l1(y:OJ.J):Option (aF OE):=
 bif(y.1.2.2.2.2.1==(1:Int)) then
(aU y.2.2.2.2.2.2.2.2.1.length (0:Int)).bind fun a=>
(y.2.2.2.2.2.2.2.2.1[a]?).bind fun b=>
 bif(b==([112,97,99,107]:F)) then
 some (((),(),(),y.1.2.2.2.1,y.1.2.2.2.2.1,(),((y.2.2.2.2.2.2.2.2.1.length:Int)==(3:Int)),()),y.2.1,y.2.2.1,(y.2.2.2.1.1,y.2.2.2.1.2.1,(),(),()),y.2.2.2.2.1,y.2.2.2.2.2.1,(y.2.2.2.2.2.2.1.1,y.2.2.2.2.2.2.1.2.1,(),(),()),y.2.2.2.2.2.2.2.1,y.2.2.2.2.2.2.2.2.1,())
else
 some (((),(),(),y.1.2.2.2.1,y.1.2.2.2.2.1,(),false,()),y.2.1,y.2.2.1,(y.2.2.2.1.1,y.2.2.2.1.2.1,(),(),()),y.2.2.2.2.1,y.2.2.2.2.2.1,(y.2.2.2.2.2.2.1.1,y.2.2.2.2.2.2.1.2.1,(),(),()),y.2.2.2.2.2.2.2.1,y.2.2.2.2.2.2.2.2.1,())
else
 some (((),(),(),y.1.2.2.2.1,y.1.2.2.2.2.1,(),false,()),y.2.1,y.2.2.1,(y.2.2.2.1.1,y.2.2.2.1.2.1,(),(),()),y.2.2.2.2.1,y.2.2.2.2.2.1,(y.2.2.2.2.2.2.1.1,y.2.2.2.2.2.2.1.2.1,(),(),()),y.2.2.2.2.2.2.2.1,y.2.2.2.2.2.2.2.2.1,())
theorem acY:aX Z (ap (di (ap (codeOf Tryz.f146) 1 250)) 500 128156) (bb OJ OE l1):=c8 x9 (by kernel_rfl) aj fun y=>by kernel_rfl
abbrev OI:Shape:=⟨[a8 2 2 0,a8 5 5 0,a' 6 3000384,aq 7,ad 8,a' 9 3000576],[bI 5000130 .need 2 2,bI 5000131 .entry 2 3,a7 2 [ax,ax,.own 5000130,.own 5000131],bI 5000322 .need 5 2,bI 5000323 .entry 5 3,a7 5 [ax,ax,.own 5000322,.own 5000323],bg 3000384 .str 6 0,bg 3000576 .str 9 0],118⟩
abbrev OD:List aR:=[(.norm,⟨[a8 2 2 0,a8 5 5 0,a' 6 3000384,aq 7,ad 8,a' 9 3000576,aC 74],[bI 5000130 .need 2 2,bI 5000131 .entry 2 3,a7 2 [ax,ax,.own 5000130,.own 5000131],bI 5000322 .need 5 2,bI 5000323 .entry 5 3,a7 5 [ax,ax,.own 5000322,.own 5000323],bg 3000384 .str 6 0,bg 3000576 .str 9 0],118⟩)]
noncomputable def mK(y:OI.J):Option (aF OD):=
 bif(decide (y.1.2.2.2.2.1>(1:Int))) then
(aU y.2.2.2.2.2.2.2.1.length y.1.2.2.2.2.1).bind fun a=>
(y.2.2.2.2.2.2.2.1[a]?).bind fun b=>
 some (((),(),(),y.1.2.2.2.1,y.1.2.2.2.2.1,(),(b==([]:F)),()),y.2.1,y.2.2.1,(y.2.2.2.1.1,y.2.2.2.1.2.1,(),(),()),y.2.2.2.2.1,y.2.2.2.2.2.1,(y.2.2.2.2.2.2.1.1,y.2.2.2.2.2.2.1.2.1,(),(),()),y.2.2.2.2.2.2.2.1,y.2.2.2.2.2.2.2.2.1,())
else
 some (((),(),(),y.1.2.2.2.1,y.1.2.2.2.2.1,(),false,()),y.2.1,y.2.2.1,(y.2.2.2.1.1,y.2.2.2.1.2.1,(),(),()),y.2.2.2.2.1,y.2.2.2.2.2.1,(y.2.2.2.2.2.2.1.1,y.2.2.2.2.2.2.1.2.1,(),(),()),y.2.2.2.2.2.2.2.1,y.2.2.2.2.2.2.2.2.1,())
theorem acX:aX Z (ap (di (ap (codeOf Tryz.f146) 1 250)) 500 512630) (bb OI OD mK):=c8 x9 (by kernel_rfl) aj fun y=>by kernel_rfl
abbrev Oi:Shape:=⟨[a8 2 2 0,a8 5 5 0,a' 6 3000384,aq 7,ad 8,a' 9 3000576],[bI 5000130 .need 2 2,bI 5000131 .entry 2 3,a7 2 [ax,ax,.own 5000130,.own 5000131],bI 5000322 .need 5 2,bI 5000323 .entry 5 3,a7 5 [ax,ax,.own 5000322,.own 5000323],bg 3000384 .str 6 0,bg 3000576 .str 9 0],118⟩
abbrev Og:List aR:=[(.norm,⟨[a8 2 2 0,a8 5 5 0,a' 6 3000384,aq 7,ad 8,a' 9 3000576,aC 86],[bI 5000130 .need 2 2,bI 5000131 .entry 2 3,a7 2 [ax,ax,.own 5000130,.own 5000131],bI 5000322 .need 5 2,bI 5000323 .entry 5 3,a7 5 [ax,ax,.own 5000322,.own 5000323],bg 3000384 .str 6 0,bg 3000576 .str 9 0],118⟩)]
noncomputable def oL(y:Oi.J):Option (aF Og):=
 bif(decide (y.1.2.2.2.2.1>(1:Int))) then
(aU y.2.2.2.2.2.2.2.2.1.length (0:Int)).bind fun a=>
(y.2.2.2.2.2.2.2.2.1[a]?).bind fun b=>
 bif(b==([110,101,101,100]:F)) then
 some (((),(),(),y.1.2.2.2.1,y.1.2.2.2.2.1,(),((y.2.2.2.2.2.2.2.2.1.length:Int)==(2:Int)),()),y.2.1,y.2.2.1,(y.2.2.2.1.1,y.2.2.2.1.2.1,(),(),()),y.2.2.2.2.1,y.2.2.2.2.2.1,(y.2.2.2.2.2.2.1.1,y.2.2.2.2.2.2.1.2.1,(),(),()),y.2.2.2.2.2.2.2.1,y.2.2.2.2.2.2.2.2.1,())
else
 some (((),(),(),y.1.2.2.2.1,y.1.2.2.2.2.1,(),false,()),y.2.1,y.2.2.1,(y.2.2.2.1.1,y.2.2.2.1.2.1,(),(),()),y.2.2.2.2.1,y.2.2.2.2.2.1,(y.2.2.2.2.2.2.1.1,y.2.2.2.2.2.2.1.2.1,(),(),()),y.2.2.2.2.2.2.2.1,y.2.2.2.2.2.2.2.2.1,())
else
 some (((),(),(),y.1.2.2.2.1,y.1.2.2.2.2.1,(),false,()),y.2.1,y.2.2.1,(y.2.2.2.1.1,y.2.2.2.1.2.1,(),(),()),y.2.2.2.2.1,y.2.2.2.2.2.1,(y.2.2.2.2.2.2.1.1,y.2.2.2.2.2.2.1.2.1,(),(),()),y.2.2.2.2.2.2.2.1,y.2.2.2.2.2.2.2.2.1,())
theorem acf:aX Z (ap (di (ap (codeOf Tryz.f146) 1 250)) 500 2050526) (bb Oi Og oL):=c8 x9 (by kernel_rfl) aj fun y=>by kernel_rfl
abbrev wm:Shape:=⟨[a8 2 2 0,a8 5 5 0,a' 6 3000384,aq 7,ad 8],[bI 5000130 .need 2 2,bI 5000131 .entry 2 3,a7 2 [ax,ax,.own 5000130,.own 5000131],bI 5000322 .need 5 2,bI 5000323 .entry 5 3,a7 5 [ax,ax,.own 5000322,.own 5000323],bg 3000384 .str 6 0],118⟩
abbrev Ar:List aR:=[(.ret,⟨[a8 2 2 0,aq 3,aC 4],[bI 5000130 .need 2 2,bI 5000131 .entry 2 3,a7 2 [ax,ax,.own 5000130,.own 5000131]],118⟩),(.exit 0,⟨[a8 2 2 0,a8 5 5 0],[bI 5000130 .need 2 2,bI 5000131 .entry 2 3,a7 2 [ax,ax,.own 5000130,.own 5000131],bI 5000322 .need 5 2,bI 5000323 .entry 5 3,a7 5 [ax,ax,.own 5000322,.own 5000323]],118⟩)]
noncomputable def is(y:wm.J):bR wm Ar:=
 bif(decide (y.1.2.2.2.2.1<(y.2.2.2.2.2.2.2.1.length:Int))) then
 bif(decide (y.1.2.2.2.2.1<=(8:Int))) then
(aU y.2.2.2.2.2.2.2.1.length y.1.2.2.2.2.1).bind fun a=>
(y.2.2.2.2.2.2.2.1[a]?).bind fun b=>
(f89 ((b,(32:Int),(2:Int),()),())).bind fun c=>
(aU y.2.2.2.2.2.2.2.1.length y.1.2.2.2.2.1).bind fun d=>
(y.2.2.2.2.2.2.2.1[d]?).bind fun e=>
 bif(decide ((y.1.2.2.2.1.length:Int)<(IntKind.i64.wrap ((e.length:Int)+(1:Int))))) then
 some (.inr (.inl (((),([]:F),false,()),y.2.2.2.2.1,y.2.2.2.2.2.1,(y.2.2.2.2.2.2.1.1,y.2.2.2.2.2.2.1.2.1,(),(),()),())))
else
(aU y.2.2.2.2.2.2.2.1.length y.1.2.2.2.2.1).bind fun f=>
(y.2.2.2.2.2.2.2.1[f]?).bind fun g=>
(bD y.1.2.2.2.1 (IntKind.i64.wrap ((g.length:Int)+(1:Int))) (y.1.2.2.2.1.length:Int)).bind fun h=>
(l1 (((),(),(),h,y.1.2.2.2.2.1,(),()),y.2.1,y.2.2.1,(y.2.2.2.1.1,y.2.2.2.1.2.1,(),(),()),y.2.2.2.2.1,y.2.2.2.2.2.1,(y.2.2.2.2.2.2.1.1,y.2.2.2.2.2.2.1.2.1,(),(),()),y.2.2.2.2.2.2.2.1,c.2.1,())).bind fun i=>
 bif i.1.2.2.2.2.2.2.1 then
(aU i.2.2.2.2.2.2.2.2.1.length (1:Int)).bind fun j=>
(i.2.2.2.2.2.2.2.2.1[j]?).bind fun k=>
(aU i.2.2.2.2.2.2.2.2.1.length (2:Int)).bind fun l=>
(i.2.2.2.2.2.2.2.2.1[l]?).bind fun m=>
 some (.inl (((),(),(),i.1.2.2.2.1,(IntKind.i64.wrap (i.1.2.2.2.2.1+(1:Int))),()),i.2.1,i.2.2.1,(i.2.2.2.1.1,i.2.2.2.1.2.1,(),(),()),i.2.2.2.2.1,i.2.2.2.2.2.1,(k,m,(),(),()),i.2.2.2.2.2.2.2.1,()))
else
(mK (((),(),(),i.1.2.2.2.1,i.1.2.2.2.2.1,(),()),i.2.1,i.2.2.1,(i.2.2.2.1.1,i.2.2.2.1.2.1,(),(),()),i.2.2.2.2.1,i.2.2.2.2.2.1,(i.2.2.2.2.2.2.1.1,i.2.2.2.2.2.2.1.2.1,(),(),()),i.2.2.2.2.2.2.2.1,i.2.2.2.2.2.2.2.2.1,())).bind fun n=>
 bif n.1.2.2.2.2.2.2.1 then
 some (.inr (.inl (((),n.1.2.2.2.1,true,()),n.2.2.2.2.1,n.2.2.2.2.2.1,(n.2.2.2.2.2.2.1.1,n.2.2.2.2.2.2.1.2.1,(),(),()),())))
else
(oL (((),(),(),n.1.2.2.2.1,n.1.2.2.2.2.1,(),()),n.2.1,n.2.2.1,(n.2.2.2.1.1,n.2.2.2.1.2.1,(),(),()),n.2.2.2.2.1,n.2.2.2.2.2.1,(n.2.2.2.2.2.2.1.1,n.2.2.2.2.2.2.1.2.1,(),(),()),n.2.2.2.2.2.2.2.1,n.2.2.2.2.2.2.2.2.1,())).bind fun D=>
 bif D.1.2.2.2.2.2.2.1 then
(aU D.2.2.2.2.2.2.2.2.1.length (1:Int)).bind fun p=>
(D.2.2.2.2.2.2.2.2.1[p]?).bind fun q=>
(f198 ((q,()),())).bind fun r=>
(cw 40 D.2.2.2.2.1 ([(bG.mk r.2.1.1 r.2.1.2.1 r.2.1.2.2.1)]:List bG)).bind fun s=>
 some (.inl (((),(),(),D.1.2.2.2.1,(IntKind.i64.wrap (D.1.2.2.2.2.1+(1:Int))),()),D.2.1,D.2.2.1,(D.2.2.2.1.1,D.2.2.2.1.2.1,(),(),()),s,D.2.2.2.2.2.1,(D.2.2.2.2.2.2.1.1,D.2.2.2.2.2.2.1.2.1,(),(),()),D.2.2.2.2.2.2.2.1,()))
else
 bif(decide (D.1.2.2.2.2.1>(0:Int))) then
 some (.inr (.inl (((),([]:F),false,()),D.2.2.2.2.1,D.2.2.2.2.2.1,(D.2.2.2.2.2.2.1.1,D.2.2.2.2.2.2.1.2.1,(),(),()),())))
else
 some (.inl (((),(),(),D.1.2.2.2.1,(IntKind.i64.wrap (D.1.2.2.2.2.1+(1:Int))),()),D.2.1,D.2.2.1,(D.2.2.2.1.1,D.2.2.2.1.2.1,(),(),()),D.2.2.2.2.1,D.2.2.2.2.2.1,(D.2.2.2.2.2.2.1.1,D.2.2.2.2.2.2.1.2.1,(),(),()),D.2.2.2.2.2.2.2.1,()))
else
 some (.inr (.inr (((),(),()),y.2.1,y.2.2.1,(y.2.2.2.1.1,y.2.2.2.1.2.1,(),(),()),y.2.2.2.2.1,y.2.2.2.2.2.1,(y.2.2.2.2.2.2.1.1,y.2.2.2.2.2.2.1.2.1,(),(),()),())))
else
 some (.inr (.inr (((),(),()),y.2.1,y.2.2.1,(y.2.2.2.1.1,y.2.2.2.1.2.1,(),(),()),y.2.2.2.2.1,y.2.2.2.2.2.1,(y.2.2.2.2.2.2.1.1,y.2.2.2.2.2.2.1.2.1,(),(),()),())))
noncomputable def l6:wm.J->Option (aF Ar):=bu is
theorem ahG:aX Z (ap (codeOf Tryz.f146) 1 250) (bb wm Ar l6):=bW x9 (by kernel_rfl) (bd acY (bd acX (bd acf aj))) fun y=>by kernel_rfl
abbrev i146:Shape:=⟨[aq 0],[],118⟩
abbrev KT:Shape:=⟨[a8 2 2 0,aq 3,aC 4],[bI 5000130 .need 2 2,bI 5000131 .entry 2 3,a7 2 [ax,ax,.own 5000130,.own 5000131]],118⟩
noncomputable def f146(a:i146.J):Option KT.J:=
(f89 ((a.1.1,(10:Int),(IntKind.i64.wrap ((a.1.1.length:Int)+(1:Int))),()),())).bind fun b=>
(l6 (((),(),(),a.1.1,(0:Int),()),([]:List bG),([]:List aG),(([]:F),([]:F),(),(),()),([]:List bG),([]:List aG),(([]:F),([]:F),(),(),()),b.2.1,())).bind fun c=>
(match c with
|.inl d=>
 some (((),d.1.2.1,d.1.2.2.1,()),d.2.1,d.2.2.1,(d.2.2.2.1.1,d.2.2.2.1.2.1,(),(),()),())
|.inr e=>
 some (((),([]:F),false,()),e.2.2.2.2.1,e.2.2.2.2.2.1,(e.2.2.2.2.2.2.1.1,e.2.2.2.2.2.2.1.2.1,(),(),()),()))
noncomputable def YE:aK:=a6 ak Tryz.f146 i146 KT [] f146
theorem z146:aL Z 146 YE:=ba x9 Tryz.func146 (by kernel_rfl) (bd ahG aj) (fun y=>by kernel_rfl) fun a=>by kernel_rfl
noncomputable abbrev aq4:bl:=[(158,DQ),(199,Ym),(200,LB)]
theorem Y9:bc Z (bi ak aq4):=bj ⟨KA,an9,Vt,⟨⟩⟩
abbrev Bq:Shape:=⟨[aq 0,a' 4 3000256,aq 5],[bg 3000256 .entry 4 0],41⟩
abbrev Io:List aR:=[(.ret,⟨[a' 2 3000128,aC 3],[bg 3000128 .entry 2 0],41⟩),(.exit 0,⟨[aq 0,a' 4 3000256],[bg 3000256 .entry 4 0],41⟩)]
noncomputable def rI(y:Bq.J):bR Bq Io:=
 bif(!(y.1.2.2.1==([]:F))) then
 bif(decide ((y.2.1.length:Int)<=(16:Int))) then
(f199 ((y.1.2.2.1,()),())).bind fun a=>
 bif(!a.1.2.2.1) then
 some (.inr (.inl (((),false,()),y.2.1,())))
else
(cw 48 y.2.1 ([(aG.mk a.2.1.1 a.2.1.2.1 a.2.1.2.2.1 a.2.1.2.2.2.1)]:List aG)).bind fun b=>
 some (.inl ((y.1.1,(),a.1.2.1,()),b,()))
else
 some (.inr (.inr ((y.1.1,(),()),y.2.1,())))
else
 some (.inr (.inr ((y.1.1,(),()),y.2.1,())))
noncomputable def wQ:Bq.J->Option (aF Io):=bu rI
theorem ajy:aX Z (ap (codeOf Tryz.f147) 1 60) (bb Bq Io wQ):=bW Y9 (by kernel_rfl) aj fun y=>by kernel_rfl
abbrev i147:Shape:=⟨[aq 0],[],41⟩
abbrev WP:Shape:=⟨[a' 2 3000128,aC 3],[bg 3000128 .entry 2 0],41⟩
noncomputable def f147(a:i147.J):Option WP.J:=
(wQ ((a.1.1,(),a.1.1,()),([]:List aG),())).bind fun b=>
(match b with
|.inl c=>
 some (((),c.1.2.1,()),c.2.1,())
|.inr d=>
(f158 ((d.2.1,()),())).bind fun e=>
 bif e.1.1 then
(f200 ((d.2.1,()),())).bind fun f=>
 some (((),(f.1.1==d.1.1),()),d.2.1,())
else
 some (((),false,()),d.2.1,()))
noncomputable def YD:aK:=a6 ak Tryz.f147 i147 WP [] f147
theorem aoi:aL Z 147 YD:=ba Y9 Tryz.func147 (by kernel_rfl) (bd ajy aj) (fun y=>by kernel_rfl) fun a=>by kernel_rfl
theorem aly(s:F):∀(m:Nat) (r:F) (t:List aG),r.length<=m->m<=2000000->t.length<=17->qM 2000000 t->
  ∃ns:List aG,ns.length<=17/\qM 2000000 ns/\(wQ ((s,((),(r,()))),(t,()))=some (.inr ((s,((),())),(ns,())))\/wQ ((s,((),(r,()))),(t,()))=some (.inl (((),(false,())),(ns,())))):=by
 intro m;induction m with
 |zero=>
  intro r t hs _ ao ha;have:r=[]:=List.length_eq_zero_iff.1 (by omega)
  subst this;exact⟨t,ao,ha,.inl (cx rfl)⟩
 |succ m ih=>
  intro r t hs hm ao ha;cases r with
  |nil=>exact⟨t,ao,ha,.inl (cx rfl)⟩
  |cons b r0=>
   have hne:((b::r0)==([]:F))=false:=rfl;generalize ee:b::r0=r at hs hne;by_cases yS:t.length<=16
   ·have d:decide (((t.length:Nat):Int)<=16)=true:=decide_eq_true (by omega)
    obtain⟨eE,e,h1,h2⟩:=QY r (by omega)
    cases hr:ou r with
    |none=>
     rw[hr] at h1;refine⟨t,ao,ha,.inr (cx ?_)⟩;simp only[rI,hne,Bool.not_false,cond_true,d,h1,Option.bind_some,Option.isSome_none]
    |some q=>
     have al:=h2 q hr;subst al;rw[hr] at h1;obtain⟨c9,fU,y5⟩:=SA hr;have fx:cw 48 t ([(aG.mk e.path e.kind e.mode e.text)]:List aG)=some (t++[e]):=ew (by decide) (by unfold am;simp;omega)
     have st:rI ((s,((),(r,()))),(t,()))=some (.inl ((s,((),(eE,()))),(t++[e],()))):=by
      simp only[rI,hne,Bool.not_false,cond_true,d,h1,Option.bind_some,Option.isSome_some,Bool.not_true,cond_false,fx]
     obtain⟨ns,g1,g2,g3⟩:=ih eE (t++[e]) (by omega) (by omega) (by simp;omega) (fun x hx=>by
      rcases List.mem_append.1 hx with hx|hx
      ·exact ha x hx
      ·rw[List.mem_singleton.1 hx];exact⟨by omega,by omega⟩)
     exact⟨ns,g1,g2,g3.imp (dL st).trans (dL st).trans⟩
   ·have d:decide (((t.length:Nat):Int)<=16)=false:=decide_eq_false (by omega)
    refine⟨t,ao,ha,.inl (cx ?_)⟩;simp only[rI,hne,Bool.not_false,cond_true,d,cond_false]
theorem alx(s:F):∀(b5 t:List aG),(∀e,e∈b5->fh e=true)->t.length+b5.length<=16->(dm b5).length<=2000000->
  wQ ((s,((),(dm b5,()))),(t,()))=some (.inr ((s,((),())),(t++b5,()))):=by
 intro b5;induction b5 with
 |nil=>intro t _ _ _;rw[List.append_nil];exact cx rfl
 |cons e b5 ih=>
  intro t h ao hl;have he:=h e List.mem_cons_self;have hr:=aiT he (dm b5);have hE:dm (e::b5)=ey e++dm b5:=by unfold dm;rw[List.flatMap_cons]
  rw[hE] at hl ⊢;have hlen:=(SA hr).2.2;have hne:((ey e++dm b5)==([]:F))=false:=by
   cases hx:ey e++dm b5 with
   |nil=>rw[hx] at hlen;simp at hlen
   |cons b r=>rfl
  obtain⟨r,b_,h1,h2⟩:=QY (ey e++dm b5) hl;have al:=h2 _ hr;simp only[Prod.mk.injEq] at al;obtain⟨rfl,rfl⟩:=al;rw[hr] at h1;have d:decide (((t.length:Nat):Int)<=16)=true:=decide_eq_true (by omega)
  have fx:cw 48 t ([(aG.mk e.path e.kind e.mode e.text)]:List aG)=some (t++[e]):=ew (by decide) (by unfold am;simp;simp at ao;omega)
  have st:rI ((s,((),(ey e++dm b5,()))),(t,()))=some (.inl ((s,((),(dm b5,()))),(t++[e],()))):=by
   simp only[rI,hne,Bool.not_false,cond_true,d,h1,Option.bind_some,Option.isSome_some,Bool.not_true,cond_false,fx]
  have:=ih (t++[e]) (fun x hx=>h x (List.mem_cons_of_mem _ hx)) (by simp at ao ⊢;omega) (by omega)
  rw[List.append_assoc] at this;exact(dL st).trans this
theorem Ta{t:List aG}(hl:t.length<=17)(h:qM 2000000 t):jk t:=⟨by show t.length<=2097152;omega,fun e he=>by have:=h e he;exact⟨by show e.path.length<=2097152;omega,by show e.text.length<=2097152;omega⟩⟩
theorem abd(s:F)(hs:s.length<=2000000):∃(ok:Bool) (t:List aG),f147 ((s,()),())=some (((),(ok,())),(t,()))/\t.length<=17/\qM 2000000 t:=by
 obtain⟨ns,g1,g2,g3⟩:=aly s s.length s [] (Nat.le_refl _) hs (by decide) (fun x hx=>by cases hx)
 rcases g3 with g3|g3
 ·have hb:=Ta g1 g2;have ao:=Aq ((ns,()),()) hb;have ao:f158 ((ns,()),())=some ((dY ns,()),()):=ao;cases hk:dY ns with
  |false=>
   rw[hk] at ao;exact⟨false,ns,by simp only[f147,g3,Option.bind_some,ao,cond_false],g1,g2⟩
  |true=>
   rw[hk] at ao;have hl:=FR ns (tk hk) hb (j' hk);exact⟨_,ns,by simp only[f147,g3,Option.bind_some,ao,cond_true,hl];rfl,g1,g2⟩
 ·exact⟨false,ns,by simp only[f147,g3,Option.bind_some],g1,g2⟩
theorem abc(t:List aG)(h:dY t=true)(hs:(dm t).length<=2000000)(hb:jk t):
  f147 ((dm t,()),())=some (((),(true,())),(t,())):=by
 have g1:=alx (dm t) t [] (vV h) (by have:=j' h;simpa using this) hs
 have ao:=Aq ((t,()),()) hb;have ao:f158 ((t,()),())=some ((dY t,()),()):=ao;rw[h] at ao;have hl:=FR t (tk h) hb (j' h);simp only[f147,g1,List.nil_append,Option.bind_some,ao,cond_true,hl,beq_self_eq_true]
theorem afV{n:bG}(h:dB n=true):ck 32 (cS n):=by
 obtain⟨h1,h2⟩:=zu h;have hs:ck 32 (dN n.kind):=by unfold dN;cases n.kind==1<;>cases n.kind==2<;>cases n.kind==3<;>exact ck.lit (by decide)
 refine((VF h1).cm hs).cm ?_
 rcases h2 with⟨_,h2⟩|⟨_,h2⟩
 ·rw[h2];exact ck.nil _
 ·exact Vy h2
abbrev iI(rest:F)(i:Int)(ns:List bG)(bN vs:F)(lines:List F):wm.J:=(((),((),((),(rest,(i,()))))),(([]:List bG),(([]:List aG),((([]:F),(([]:F),((),((),())))),(ns,(([]:List aG),((bN,(vs,((),((),())))),(lines,()))))))))
abbrev q9(r:F)(ok:Bool)(ns:List bG)(bN vs:F):KT.J:=(((),(r,(ok,()))),(ns,(([]:List aG),((bN,(vs,((),((),())))),()))))
abbrev NU(ns:List bG)(bN vs:F):aF Ar:=.inr (((),((),())),(([]:List bG),(([]:List aG),((([]:F),(([]:F),((),((),())))),(ns,(([]:List aG),((bN,(vs,((),((),())))),())))))))
abbrev q_(k:Nat)(r:F)(ns:List bG)(bN vs:F):Prop:=r.length<=k/\ns.length<=9/\u0 k ns/\bN.length<=k/\vs.length<=k
theorem alv(K:Nat)(bC:K<=2000000)(lines:List F)(dQ:∀x,x∈lines->x.length<=K):∀(k i:Nat) (rest:F) (ns:List bG) (bN vs:F),k+i=9->rest.length<=K->ns.length<=i->u0 K ns->bN.length<=K->vs.length<=K->
  ∃(r:F) (ok:Bool) (j1:List bG) (lx ca:F),q_ K r j1 lx ca/\(l6 (iI rest (i:Int) ns bN vs lines)=some (.inl (q9 r ok j1 lx ca))\/l6 (iI rest (i:Int) ns bN vs lines)=some (NU j1 lx ca)):=by
 intro k;induction k with
 |zero=>
  intro i rest ns bN vs hi hr hn ha h1 h2;refine⟨[],false,ns,bN,vs,⟨Nat.zero_le _,by omega,ha,h1,h2⟩,.inr (cx ?_)⟩
  have d:decide ((i:Int)<=8)=false:=decide_eq_false (by omega)
  simp only[is,d,cond_false];cases decide ((i:Int)<(lines.length:Int))<;>rfl
 |succ k ih=>
  intro i rest ns bN vs hi hr hn ha h1 h2;have d:decide ((i:Int)<=8)=true:=decide_eq_true (by omega)
  by_cases hlt:i<lines.length
  ·have hx:lines[i]? =some lines[i]:=List.getElem?_eq_getElem hlt;have hxl:=dQ _ (List.getElem_mem hlt);generalize lines[i]=x at hx hxl;have hin:aU lines.length (i:Int)=some i:=gg hlt;have hw1:IntKind.i64.wrap (((x.length:Nat):Int)+1)=((x.length+1:Nat):Int):=b6 (by unfold am;omega)
   have lz:IntKind.i64.wrap (((i:Nat):Int)+1)=((i+1:Nat):Int):=b6 (by unfold am;omega)
   have c2:=mL 32 x (by omega) 2
   have c2:f89 ((x,((32:Int),((2:Int),()))),())=_:=c2;have hm:=rc 32 2 x;have hp:=Pe 32 2 x;generalize splitN 32 2 x=ws at c2 hm hp;obtain⟨O,more,rfl⟩:∃O more,ws=O::more:=by
    cases ws with
    |nil=>exact absurd hp (by decide)
    |cons a b=>exact⟨a,b,rfl⟩
   have io:aU (O::more).length (0:Int)=some 0:=u' (by simp)
   have dE:(O::more)[0]? =some O:=rfl;by_cases hlen:rest.length<x.length+1
   ·have j8:decide (((rest.length:Nat):Int)<((x.length+1:Nat):Int))=true:=decide_eq_true (by omega)
    refine⟨[],false,ns,bN,vs,⟨Nat.zero_le _,by omega,ha,h1,h2⟩,.inl (cx ?_)⟩
    simp only[is,cn hlt,d,cond_true,hin,Option.bind_some,hx,c2,hw1,j8]
   ·have j8:decide (((rest.length:Nat):Int)<((x.length+1:Nat):Int))=false:=decide_eq_false (by omega)
    have hs:bD rest ((x.length+1:Nat):Int) ((rest.length:Nat):Int)=some (rest.drop (x.length+1)):=hI (by omega)
    have oy:(rest.drop (x.length+1)).length<=K:=by simp;omega
    generalize rest.drop (x.length+1)=r1 at hs oy;have go:∀(gw:List bG) (Ec yd:F),gw.length<=i+1->u0 K gw->Ec.length<=K->yd.length<=K->is (iI rest (i:Int) ns bN vs lines)=some (.inl (iI r1 ((i+1:Nat):Int) gw Ec yd lines))->
      ∃(r:F) (ok:Bool) (j1:List bG) (lx ca:F),q_ K r j1 lx ca/\(l6 (iI rest (i:Int) ns bN vs lines)=some (.inl (q9 r ok j1 lx ca))\/l6 (iI rest (i:Int) ns bN vs lines)=some (NU j1 lx ca)):=by
     intro gw Ec yd q1 q2 dq kB sU;obtain⟨r,ok,j1,lx,ca,b,e⟩:=ih (i+1) r1 gw Ec yd (by omega) oy q1 q2 dq kB
     exact⟨r,ok,j1,lx,ca,b,e.imp (dL sU).trans (dL sU).trans⟩
    have stop:∀(r:F) (ok:Bool),r.length<=K->is (iI rest (i:Int) ns bN vs lines)=some (.inr (.inl (q9 r ok ns bN vs)))->
      ∃(r:F) (ok:Bool) (j1:List bG) (lx ca:F),q_ K r j1 lx ca/\(l6 (iI rest (i:Int) ns bN vs lines)=some (.inl (q9 r ok j1 lx ca))\/l6 (iI rest (i:Int) ns bN vs lines)=some (NU j1 lx ca)):=
     fun r ok q1 q2=>⟨r,ok,ns,bN,vs,⟨q1,by omega,ha,h1,h2⟩,.inl (cx q2)⟩
    match i,hn,hi,hin,lz,hlt,hx,d,go,stop,ih with
    |0,hn,hi,hin,lz,hlt,hx,d,go,stop,ih=>
     refine go ns bN vs (by omega) ha h1 h2 ?_
     have t1:((((0:Nat):Int))==1)=false:=rfl;have t2:decide ((((0:Nat):Int))>1)=false:=rfl;have t3:decide ((((0:Nat):Int))>0)=false:=rfl;simp only[is,cn hlt,d,cond_true,hin,Option.bind_some,hx,c2,hw1,j8,cond_false,hs,l1,t1,mK,t2,oL,t3,lz]
    |1,hn,hi,hin,lz,hlt,hx,d,go,stop,ih=>
     have t1:((((1:Nat):Int))==1)=true:=rfl;have t2:decide ((((1:Nat):Int))>1)=false:=rfl;have t3:decide ((((1:Nat):Int))>0)=true:=rfl;cases hc:(O==([112,97,99,107]:F))&&(((O::more).length:Int)==3) with
     |true=>
      rw[Bool.and_eq_true] at hc;obtain⟨aP,w2,rfl⟩:∃aP w2,more=[aP,w2]:=by
       have:more.length=2:=by have:=eq_of_beq hc.2;simp at this;omega
       match more,this with
       |[a,b],_=>exact⟨a,b,rfl⟩
      refine go ns aP w2 (by omega) ha (by have:=hm aP (by simp);omega) (by have:=hm w2 (by simp);omega) ?_
      have mH:aU ([O,aP,w2]:List F).length (1:Int)=some 1:=rfl;have q6:aU ([O,aP,w2]:List F).length (2:Int)=some 2:=rfl;have eV:([O,aP,w2]:List F)[1]? =some aP:=rfl;have d':([O,aP,w2]:List F)[2]? =some w2:=rfl;simp only[is,cn hlt,d,cond_true,hin,Option.bind_some,hx,c2,hw1,j8,cond_false,hs,l1,t1,io,dE,hc.1,hc.2,mH,q6,eV,d',lz]
     |false=>
      refine stop [] false (Nat.zero_le _) ?_
      simp only[is,cn hlt,d,cond_true,hin,Option.bind_some,hx,c2,hw1,j8,cond_false,hs,l1,t1,io,dE];cases br:O==([112,97,99,107]:F) with
      |false=>simp only[cond_false,Option.bind_some,mK,t2,oL,t3,cond_true]
      |true=>
       rw[br,Bool.true_and] at hc;simp only[cond_true,hc,cond_false,Option.bind_some,mK,t2,oL,t3]
    |j+2,hn,hi,hin,lz,hlt,hx,d,go,stop,ih=>
     have t1:((((j+2:Nat):Int))==1)=false:=by rw[beq_eq_false_iff_ne];omega
     have t2:decide ((((j+2:Nat):Int))>1)=true:=decide_eq_true (by omega)
     have t3:decide ((((j+2:Nat):Int))>0)=true:=decide_eq_true (by omega)
     cases hxe:x==([]:F) with
     |true=>
      refine stop r1 true oy ?_
      simp only[is,cn hlt,d,cond_true,hin,Option.bind_some,hx,c2,hw1,j8,cond_false,hs,l1,t1,mK,t2,hxe]
     |false=>
      cases hc:(O==([110,101,101,100]:F))&&(((O::more).length:Int)==2) with
      |true=>
       rw[Bool.and_eq_true] at hc;obtain⟨aP,rfl⟩:∃aP,more=[aP]:=by
        have:more.length=1:=by have:=eq_of_beq hc.2;simp at this;omega
        match more,this with
        |[a],_=>exact⟨a,rfl⟩
       have axx:=hm aP (by simp)
       obtain⟨n,ok,e1,e2,bp⟩:=acD aP (by omega)
       have fx:cw 40 ns ([(bG.mk n.name n.kind n.aW)]:List bG)=some (ns++[n]):=ew (by decide) (by unfold am;simp;omega)
       refine go (ns++[n]) bN vs (by simp;omega) (fun z hz=>by
        rcases List.mem_append.1 hz with hz|hz
        ·exact ha z hz
        ·rw[List.mem_singleton.1 hz];exact⟨by omega,by omega⟩) h1 h2 ?_
       have mH:aU ([O,aP]:List F).length (1:Int)=some 1:=rfl;have eV:([O,aP]:List F)[1]? =some aP:=rfl;simp only[is,cn hlt,d,cond_true,hin,Option.bind_some,hx,c2,hw1,j8,cond_false,hs,l1,t1,mK,t2,hxe,oL,io,dE,hc.1,hc.2,mH,eV,e1,fx,lz]
      |false=>
       refine stop [] false (Nat.zero_le _) ?_
       simp only[is,cn hlt,d,cond_true,hin,Option.bind_some,hx,c2,hw1,j8,cond_false,hs,l1,t1,mK,t2,hxe,oL,io,dE];cases br:O==([110,101,101,100]:F) with
       |false=>simp only[cond_false,Option.bind_some,t3,cond_true]
       |true=>
        rw[br,Bool.true_and] at hc;simp only[cond_true,hc,cond_false,Option.bind_some,t3]
  ·have awn:decide ((i:Int)<(lines.length:Int))=false:=decide_eq_false (by omega)
   refine⟨[],false,ns,bN,vs,⟨Nat.zero_le _,by omega,ha,h1,h2⟩,.inr (cx ?_)⟩
   simp only[is,awn,cond_false]
theorem abV(s:F)(hs:s.length<=2000000):∃(r:F) (ok:Bool) (ns:List bG) (bN vs:F),f146 ((s,()),())=some (q9 r ok ns bN vs)/\q_ s.length r ns bN vs:=by
 have hw:IntKind.i64.wrap (((s.length:Nat):Int)+1)=((s.length+1:Nat):Int):=b6 (by unfold am;omega)
 have c1:=mL 10 s (by omega) (s.length+1)
 have c1:f89 ((s,((10:Int),(((s.length+1:Nat):Int),()))),())=_:=c1;obtain⟨r,ok,ns,bN,vs,hb,e⟩:=alv s.length hs (splitN 10 (s.length+1) s) (rc 10 _ s) 9 0 s [] [] [] rfl (Nat.le_refl _) (Nat.zero_le _) (fun x hx=>by cases hx) (Nat.zero_le _) (Nat.zero_le _)
 rcases e with e|e
 ·have e:l6 (iI s (0:Int) [] [] [] (splitN 10 (s.length+1) s))=_:=e;refine⟨r,ok,ns,bN,vs,?_,hb⟩;simp only[f146,hw,c1,Option.bind_some,e]
 ·have e:l6 (iI s (0:Int) [] [] [] (splitN 10 (s.length+1) s))=_:=e;refine⟨[],false,ns,bN,vs,?_,⟨Nat.zero_le _,hb.2⟩⟩;simp only[f146,hw,c1,Option.bind_some,e]
noncomputable abbrev avb:bl:=[(98,M'),(146,YE),(147,YD),(148,LJ)]
theorem Ng:bc Z (bi ak avb):=bj ⟨Zf,z146,aoi,z148,⟨⟩⟩
abbrev Tu:Shape:=⟨[aq 0,a8 2 2 0,a8 4 4 0,aq 5,aC 6],[bI 5000130 .need 2 2,bI 5000131 .entry 2 3,a7 2 [ax,ax,.own 5000130,.own 5000131],bI 5000258 .need 4 2,bI 5000259 .entry 4 3,a7 4 [ax,ax,.own 5000258,.own 5000259]],45⟩
abbrev Tl:List aR:=[(.norm,⟨[aq 0,a8 2 2 0,a8 4 4 0,aq 5,aC 21],[bI 5000130 .need 2 2,bI 5000131 .entry 2 3,a7 2 [ax,ax,.own 5000130,.own 5000131],bI 5000258 .need 4 2,bI 5000259 .entry 4 3,a7 4 [ax,ax,.own 5000258,.own 5000259]],45⟩)]
noncomputable def o_(y:Tu.J):Option (aF Tl):=
 bif(!(!y.1.2.2.2.2.1)) then
 some ((y.1.1,(),(),y.1.2.2.2.1,(decide ((y.1.1.length:Int)>(4000:Int))),()),y.2.1,y.2.2.1,(y.2.2.2.1.1,y.2.2.2.1.2.1,(),(),()),y.2.2.2.2.1,y.2.2.2.2.2.1,(y.2.2.2.2.2.2.1.1,y.2.2.2.2.2.2.1.2.1,(),(),()),())
else
 some ((y.1.1,(),(),y.1.2.2.2.1,true,()),y.2.1,y.2.2.1,(y.2.2.2.1.1,y.2.2.2.1.2.1,(),(),()),y.2.2.2.2.1,y.2.2.2.2.2.1,(y.2.2.2.2.2.2.1.1,y.2.2.2.2.2.2.1.2.1,(),(),()),())
theorem ak5:aX Z (ap (codeOf Tryz.f92) 1 28) (bb Tu Tl o_):=c8 Ng (by kernel_rfl) aj fun y=>by kernel_rfl
abbrev Sm:Shape:=⟨[aq 0,a8 2 2 0,a8 4 4 0,aC 8],[bI 5000130 .need 2 2,bI 5000131 .entry 2 3,a7 2 [ax,ax,.own 5000130,.own 5000131],bI 5000258 .need 4 2,bI 5000259 .entry 4 3,a7 4 [ax,ax,.own 5000258,.own 5000259]],45⟩
abbrev R9:List aR:=[(.norm,⟨[a8 2 2 0,a8 4 4 0,aC 42],[bI 5000130 .need 2 2,bI 5000131 .entry 2 3,a7 2 [ax,ax,.own 5000130,.own 5000131],bI 5000258 .need 4 2,bI 5000259 .entry 4 3,a7 4 [ax,ax,.own 5000258,.own 5000259]],45⟩)]
noncomputable def rF(y:Sm.J):Option (aF R9):=
 bif(!(!y.1.2.2.2.1)) then
(f98 (((y.2.2.2.2.2.2.1.1,y.2.2.2.2.2.2.1.2.1,y.2.2.2.2.1,y.2.2.2.2.2.1,()),()),())).bind fun a=>
 bif(!(!a.1.1)) then
(f148 (((y.2.2.2.2.2.2.1.1,y.2.2.2.2.2.2.1.2.1,y.2.2.2.2.1,y.2.2.2.2.2.1,()),()),())).bind fun b=>
 some (((),(),(!(b.1.1==y.1.1)),()),y.2.1,y.2.2.1,(y.2.2.2.1.1,y.2.2.2.1.2.1,(),(),()),y.2.2.2.2.1,y.2.2.2.2.2.1,(y.2.2.2.2.2.2.1.1,y.2.2.2.2.2.2.1.2.1,(),(),()),())
else
 some (((),(),true,()),y.2.1,y.2.2.1,(y.2.2.2.1.1,y.2.2.2.1.2.1,(),(),()),y.2.2.2.2.1,y.2.2.2.2.2.1,(y.2.2.2.2.2.2.1.1,y.2.2.2.2.2.2.1.2.1,(),(),()),())
else
 some (((),(),true,()),y.2.1,y.2.2.1,(y.2.2.2.1.1,y.2.2.2.1.2.1,(),(),()),y.2.2.2.2.1,y.2.2.2.2.2.1,(y.2.2.2.2.2.2.1.1,y.2.2.2.2.2.2.1.2.1,(),(),()),())
theorem aiV:aX Z (ap (codeOf Tryz.f92) 1 252) (bb Sm R9 rF):=c8 Ng (by kernel_rfl) aj fun y=>by kernel_rfl
abbrev i92:Shape:=⟨[aq 0],[],45⟩
abbrev yg:Shape:=⟨[a8 2 2 0,aC 3],[bI 5000130 .need 2 2,bI 5000131 .entry 2 3,a7 2 [ax,ax,.own 5000130,.own 5000131]],45⟩
noncomputable def f92(a:i92.J):Option yg.J:=
(f146 ((a.1.1,()),())).bind fun b=>
(o_ ((a.1.1,(),(),b.1.2.1,b.1.2.2.1,()),([]:List bG),([]:List aG),(([]:F),([]:F),(),(),()),b.2.1,b.2.2.1,(b.2.2.2.1.1,b.2.2.2.1.2.1,(),(),()),())).bind fun c=>
 bif c.1.2.2.2.2.1 then
 some (((),false,()),([]:List bG),([]:List aG),(([]:F),([]:F),(),(),()),())
else
(f147 ((c.1.2.2.2.1,()),())).bind fun d=>
(rF ((c.1.1,(),(),d.1.2.1,()),c.2.1,c.2.2.1,(c.2.2.2.1.1,c.2.2.2.1.2.1,(),(),()),c.2.2.2.2.1,d.2.1,(c.2.2.2.2.2.2.1.1,c.2.2.2.2.2.2.1.2.1,(),(),()),())).bind fun e=>
 bif e.1.2.2.1 then
 some (((),false,()),([]:List bG),([]:List aG),(([]:F),([]:F),(),(),()),())
else
 some (((),true,()),e.2.2.2.2.1,e.2.2.2.2.2.1,(e.2.2.2.2.2.2.1.1,e.2.2.2.2.2.2.1.2.1,(),(),()),())
noncomputable def _L:aK:=a6 ak Tryz.f92 i92 yg [] f92
theorem ar2:aL Z 92 _L:=ba Ng Tryz.func92 (by kernel_rfl) (bd ak5 (bd aiV aj)) (fun y=>by kernel_rfl) fun a=>by kernel_rfl
def eB(n:bG):F:=gl++32::cS n
theorem alI{n:bG}(h:dB n=true):ck 10 (eB n):=(ck.lit (by decide)).cm fun z hz=>by
 rcases List.mem_cons.1 hz with rfl|hz
 ·decide
 ·exact SB h z hz
theorem RE(n:bG)(r:F):cR n++r=eB n++10::r:=by unfold cR eB gl;simp
theorem alu:∀(ns acc:List bG) (pre more:List F) (L bN vs:F),(∀n,n∈ns->dB n=true)->2<=pre.length->acc.length<=pre.length->pre.length+ns.length<=8->(ns.flatMap cR++10::L).length<=2000000->
  l6 (iI (ns.flatMap cR++10::L) (pre.length:Int) acc bN vs (pre++(ns.map eB++[]::more)))=some (.inl (q9 L true (acc++ns) bN vs)):=by
 intro ns;induction ns with
 |nil=>
  intro acc pre more L bN vs _ hp _ hi hs;have hlt:pre.length<(pre++(([]:List bG).map eB++[]::more)).length:=by simp
  have hx:(pre++(([]:List bG).map eB++[]::more))[pre.length]? =some []:=by rw[List.getElem?_append_right (Nat.le_refl _)];simp
  have hin:=gg hlt;have d:decide ((pre.length:Int)<=8)=true:=decide_eq_true (by simp at hi;omega)
  have c2:=mL 32 [] (by simp) 2
  have c2:f89 ((([]:F),((32:Int),((2:Int),()))),())=some (((),()),([[]],())):=c2;have hw1:IntKind.i64.wrap (((([]:F).length:Nat):Int)+1)=((1:Nat):Int):=by decide
  have j8:decide (((((10:UInt8)::L).length:Nat):Int)<((1:Nat):Int))=false:=decide_eq_false (by simp only[List.length_cons];omega)
  have lC:bD ((10:UInt8)::L) ((1:Nat):Int) ((((10:UInt8)::L).length:Nat):Int)=some L:=hI (xs:=(10:UInt8)::L) (by simp)
  have t1:((pre.length:Int)==1)=false:=by rw[beq_eq_false_iff_ne];omega
  have t2:decide ((pre.length:Int)>1)=true:=decide_eq_true (by omega)
  have hxe:(([]:F)==([]:F))=true:=rfl;rw[List.append_nil];refine cx ?_
  show is (iI (10::L) (pre.length:Int) acc bN vs _)=_;simp only[is,cn hlt,d,cond_true,hin,Option.bind_some,hx,c2,hw1,j8,cond_false,lC,l1,t1,mK,t2,hxe]
 |cons n ns ih=>
  intro acc pre more L bN vs h hp ha hi hs;have hk:=h n List.mem_cons_self;have hE:(n::ns).flatMap cR++10::L=eB n++10::(ns.flatMap cR++10::L):=by rw[List.flatMap_cons,List.append_assoc,RE]
  rw[hE] at hs ⊢;have hR:pre++((n::ns).map eB++[]::more)=(pre++[eB n])++(ns.map eB++[]::more):=by simp
  have hlt:pre.length<(pre++((n::ns).map eB++[]::more)).length:=by simp
  have hx:(pre++((n::ns).map eB++[]::more))[pre.length]? =some (eB n):=by rw[List.getElem?_append_right (Nat.le_refl _)];simp
  have hin:=gg hlt;have axZ:(eB n).length=gl.length+1+(cS n).length:=by unfold eB;simp;omega
  simp only[List.length_append,List.length_cons] at hs hi;have d:decide ((pre.length:Int)<=8)=true:=decide_eq_true (by omega)
  have nx:splitN 32 2 (eB n)=[gl,cS n]:=by
   have hn:ck 32 gl:=ck.lit (by decide)
   unfold eB;rw[Pf hn,P3 (afV hk)]
  have c2:=mL 32 (eB n) (by omega) 2
  rw[nx] at c2;have c2:f89 ((eB n,((32:Int),((2:Int),()))),())=some (((),()),([gl,cS n],())):=c2;have hw1:IntKind.i64.wrap ((((eB n).length:Nat):Int)+1)=(((eB n).length+1:Nat):Int):=b6 (by unfold am;omega)
  have lz:IntKind.i64.wrap (((pre.length:Nat):Int)+1)=((pre.length+1:Nat):Int):=b6 (by unfold am;omega)
  have j8:decide ((((eB n++10::(ns.flatMap cR++10::L)).length:Nat):Int)<(((eB n).length+1:Nat):Int))=false:=decide_eq_false (by simp;omega)
  have lC:bD (eB n++10::(ns.flatMap cR++10::L)) (((eB n).length+1:Nat):Int) (((eB n++10::(ns.flatMap cR++10::L)).length:Nat):Int)=some (ns.flatMap cR++10::L):=by
   rw[hI (by simp only[List.length_append,List.length_cons];omega)]
   refine congrArg some ?_
   rw[show eB n++10::(ns.flatMap cR++10::L)=(eB n++[10])++(ns.flatMap cR++10::L) by simp,List.drop_left' (by simp)]
  have t1:((pre.length:Int)==1)=false:=by rw[beq_eq_false_iff_ne];omega
  have t2:decide ((pre.length:Int)>1)=true:=decide_eq_true (by omega)
  have hxe:(eB n==([]:F))=false:=rfl;have io:aU ([gl,cS n]:List F).length (0:Int)=some 0:=rfl;have mH:aU ([gl,cS n]:List F).length (1:Int)=some 1:=rfl;have dE:([gl,cS n]:List F)[0]? =some gl:=rfl;have eV:([gl,cS n]:List F)[1]? =some (cS n):=rfl;have q0:(gl==([110,101,101,100]:F))=true:=rfl;have q2:((([gl,cS n]:List F).length:Int)==2)=true:=rfl;obtain⟨ok,e1⟩:=acC hk (by omega)
  have fx:cw 40 acc ([(bG.mk n.name n.kind n.aW)]:List bG)=some (acc++[n]):=ew (by decide) (by unfold am;simp;omega)
  have st:is (iI (eB n++10::(ns.flatMap cR++10::L)) (pre.length:Int) acc bN vs (pre++((n::ns).map eB++[]::more)))=some (.inl (iI (ns.flatMap cR++10::L) ((pre.length+1:Nat):Int) (acc++[n]) bN vs (pre++((n::ns).map eB++[]::more)))):=by
   simp only[is,cn hlt,d,cond_true,hin,Option.bind_some,hx,c2,hw1,j8,cond_false,lC,l1,t1,mK,t2,hxe,oL,io,dE,q0,q2,mH,eV,e1,fx,lz]
  have:=ih (acc++[n]) (pre++[eB n]) more L bN vs (fun x hx=>h x (List.mem_cons_of_mem _ hx)) (by simp;omega) (by simp;omega) (by simp;omega) (by simp only[List.length_append,List.length_cons];omega)
  rw[<-hR,List.append_assoc] at this;have k2:(pre++[eB n]).length=pre.length+1:=by simp
  rw[k2] at this;exact(dL st).trans this
theorem ac8(ns:List bG)(r:F)(h:∀n,n∈ns->dB n=true):bQ 10 (ns.flatMap cR++10::r)=ns.map eB++[]::bQ 10 r:=by
 induction ns with
 |nil=>exact tc (a:=[]) (ck.nil 10)
 |cons n ns ih=>
  rw[List.flatMap_cons,List.append_assoc,RE,tc (alI (h n List.mem_cons_self)),ih fun x hx=>h x (List.mem_cons_of_mem _ hx)]
  rfl
theorem aiP(p:aT):ck 10 (e6 p):=(ck.lit (by decide)).cm (Sk _)
theorem abU(p:aT)(hk:cT p=true)(hs:(bO p).length<=2000000):f146 ((bO p,()),())=some (q9 (dm p.bK) true p.bh p.name p.aW):=by
 have hw:IntKind.i64.wrap ((((bO p).length:Nat):Int)+1)=(((bO p).length+1:Nat):Int):=b6 (by unfold am;omega)
 have c1:=mL 10 (bO p) (by omega) ((bO p).length+1)
 obtain⟨h1,h2,h3,aE,_,cB⟩:=oO hk;have lB:splitN 10 ((bO p).length+1) (bO p)=e6 p::eb p::(p.bh.map eB++[]::bQ 10 (dm p.bK)):=by
  rw[zz 10 _ _ (by omega),wK,tc (aiP p),wC,tc (RL hk),jv,ac8 _ _ h3]
 rw[lB] at c1;have c1:f89 ((bO p,((10:Int),((((bO p).length+1:Nat):Int),()))),())=_:=c1;generalize awf:p.bh.map eB++[]::bQ 10 (dm p.bK)=fJ at c1;have EW:bO p=e6 p++10::du p:=wK p;have hB:du p=eb p++10::jv p:=wC p;have c9:(bO p).length=(e6 p).length+1+(du p).length:=by rw[EW];simp;omega
 have fU:(du p).length=(eb p).length+1+(jv p).length:=by rw[hB];simp;omega
 have hlt:∀i,i<2->decide (((i:Nat):Int)<(((e6 p::eb p::fJ).length:Nat):Int))=true:=fun i hi=>decide_eq_true (by simp;omega)
 have i0:aU (e6 p::eb p::fJ).length (0:Int)=some 0:=u' (by simp)
 have i1:aU (e6 p::eb p::fJ).length ((0+1:Nat):Int)=some 1:=Mh (by simp)
 have fG:(e6 p::eb p::fJ)[0]? =some (e6 p):=rfl;have eD:(e6 p::eb p::fJ)[1]? =some (eb p):=rfl;have iX:is (iI (bO p) (0:Int) [] [] [] (e6 p::eb p::fJ))=some (.inl (iI (du p) ((0+1:Nat):Int) [] [] [] (e6 p::eb p::fJ))):=by
  have d:decide ((0:Int)<=8)=true:=rfl;have d0:decide ((0:Int)<(((e6 p::eb p::fJ).length:Nat):Int))=true:=hlt 0 (by decide)
  have c2:=mL 32 (e6 p) (by omega) 2
  have c2:f89 ((e6 p,((32:Int),((2:Int),()))),())=_:=c2;have hw1:IntKind.i64.wrap ((((e6 p).length:Nat):Int)+1)=(((e6 p).length+1:Nat):Int):=b6 (by unfold am;omega)
  have j8:decide ((((bO p).length:Nat):Int)<(((e6 p).length+1:Nat):Int))=false:=decide_eq_false (by omega)
  have lC:bD (bO p) (((e6 p).length+1:Nat):Int) (((bO p).length:Nat):Int)=some (du p):=by
   rw[hI (by omega)]
   refine congrArg some ?_
   rw[EW,show e6 p++10::du p=(e6 p++[10])++du p by simp,List.drop_left' (by simp)]
  have t1:((0:Int)==1)=false:=rfl;have t2:decide ((0:Int)>1)=false:=rfl;have t3:decide ((0:Int)>0)=false:=rfl;have lz:IntKind.i64.wrap ((0:Int)+1)=((0+1:Nat):Int):=by decide
  simp only[is,d0,d,cond_true,i0,Option.bind_some,fG,c2,hw1,j8,cond_false,lC,l1,t1,mK,t2,oL,t3,lz]
 have s1:is (iI (du p) ((0+1:Nat):Int) [] [] [] (e6 p::eb p::fJ))=some (.inl (iI (jv p) ((([e6 p,eb p]:List F).length:Nat):Int) [] p.name p.aW (e6 p::eb p::fJ))):=by
  have d:decide (((0+1:Nat):Int)<=8)=true:=rfl;have d0:=hlt 1 (by decide)
  have d0:decide (((0+1:Nat):Int)<(((e6 p::eb p::fJ).length:Nat):Int))=true:=d0;have nx:splitN 32 2 (eb p)=[je,p.name,p.aW]:=by
   rw[zA 32 2 _ (by rw[Fw hk];exact Nat.le_refl 3),Fw hk]
  have c2:=mL 32 (eb p) (by omega) 2
  rw[nx] at c2;have c2:f89 ((eb p,((32:Int),((2:Int),()))),())=some (((),()),([je,p.name,p.aW],())):=c2;have hw1:IntKind.i64.wrap ((((eb p).length:Nat):Int)+1)=(((eb p).length+1:Nat):Int):=b6 (by unfold am;omega)
  have j8:decide ((((du p).length:Nat):Int)<(((eb p).length+1:Nat):Int))=false:=decide_eq_false (by omega)
  have lC:bD (du p) (((eb p).length+1:Nat):Int) (((du p).length:Nat):Int)=some (jv p):=by
   rw[hI (by omega)]
   refine congrArg some ?_
   rw[hB,show eb p++10::jv p=(eb p++[10])++jv p by simp,List.drop_left' (by simp)]
  have t1:(((0+1:Nat):Int)==1)=true:=rfl;have io:aU ([je,p.name,p.aW]:List F).length (0:Int)=some 0:=rfl;have mH:aU ([je,p.name,p.aW]:List F).length (1:Int)=some 1:=rfl;have q6:aU ([je,p.name,p.aW]:List F).length (2:Int)=some 2:=rfl;have dE:([je,p.name,p.aW]:List F)[0]? =some je:=rfl;have eV:([je,p.name,p.aW]:List F)[1]? =some p.name:=rfl;have d':([je,p.name,p.aW]:List F)[2]? =some p.aW:=rfl;have q0:(je==([112,97,99,107]:F))=true:=rfl;have dq:((([je,p.name,p.aW]:List F).length:Int)==3)=true:=rfl;have lz:IntKind.i64.wrap (((0+1:Nat):Int)+1)=((([e6 p,eb p]:List F).length:Nat):Int):=by show IntKind.i64.wrap (((0+1:Nat):Int)+1)=((2:Nat):Int);decide
  simp only[is,d0,d,cond_true,i1,Option.bind_some,eD,c2,hw1,j8,cond_false,lC,l1,t1,io,dE,q0,dq,mH,q6,eV,d',lz]
 have s2:=alu p.bh [] [e6 p,eb p] (bQ 10 (dm p.bK)) (dm p.bK) p.name p.aW h3 (Nat.le_refl 2) (Nat.zero_le _) (by simp;omega) (by show(jv p).length<=_;omega)
 rw[awf] at s2;have e:l6 (iI (bO p) (0:Int) [] [] [] (e6 p::eb p::fJ))=some (.inl (q9 (dm p.bK) true p.bh p.name p.aW)):=(dL iX).trans ((dL s1).trans s2);simp only[f146,hw,c1,Option.bind_some,e]
abbrev s4(p:aT):yg.J:=(((),(true,())),(p.bh,(p.bK,((p.name,(p.aW,((),((),())))),()))))
abbrev NR:yg.J:=(((),(false,())),(([]:List bG),(([]:List aG),((([]:F),(([]:F),((),((),())))),()))))
theorem al0{p q:aT}(h:s4 p=s4 q):p=q:=by
 obtain⟨a,b,c,d⟩:=p;obtain⟨cP,bf,fV,aaN⟩:=q;simp only[s4,Prod.mk.injEq] at h;obtain⟨_,rfl,rfl,⟨rfl,rfl,_⟩,_⟩:=h;rfl
theorem Fc{p:aT}(hk:cT p=true)(hl:(bO p).length<=4000):f92 ((bO p,()),())=some (s4 p):=by
 have hb:=JI hk hl;obtain⟨h1,h2,h3,aE,_,cB⟩:=oO hk;obtain⟨q1,q2,dq,kB⟩:=zE p;have c1:=abU p hk (by omega)
 have d:decide (((bO p).length:Int)>4000)=false:=decide_eq_false (by omega)
 have c2:=abc p.bK cB (by omega) hb.2.2.2
 have c3:=GH (((p.name,(p.aW,(p.bh,(p.bK,())))),()),()) hb;have c3:f98 (((p.name,(p.aW,(p.bh,(p.bK,())))),()),())=some ((cT p,()),()):=c3;rw[hk] at c3;have dh:=HU p hb hk;simp only[f92,c1,Option.bind_some,o_,Bool.not_true,Bool.not_false,cond_true,d,cond_false,c2,rF,c3,dh,beq_self_eq_true]
theorem abv(s:F)(hs:s.length<=2000000):f92 ((s,()),())=some NR\/∃p:aT,f92 ((s,()),())=some (s4 p)/\cT p=true/\bO p=s/\s.length<=4000:=by
 obtain⟨r,ok,ns,bN,vs,c1,aw,an,bo,cl,ed⟩:=abV s hs;cases ok with
 |false=>
  refine .inl ?_
  simp only[f92,c1,Option.bind_some,o_,Bool.not_true,Bool.not_false,cond_true,cond_false]
 |true=>
  by_cases hl:s.length<=4000
  ·have d:decide ((s.length:Int)>4000)=false:=decide_eq_false (by omega)
   obtain⟨L8,t,c2,gz,y_⟩:=abd r (by omega)
   cases L8 with
   |false=>
    refine .inl ?_
    simp only[f92,c1,Option.bind_some,o_,Bool.not_true,Bool.not_false,cond_true,d,cond_false,c2,rF]
   |true=>
    have hb:k6 ⟨bN,vs,ns,t⟩:=⟨by show bN.length<=2097152;omega,by show vs.length<=2097152;omega,⟨by show ns.length<=2097152;omega,fun n hn=>by have:=bo n hn;exact⟨by show n.name.length<=2097152;omega,by show n.aW.length<=2097152;omega⟩⟩,Ta gz y_⟩
    have c3:=GH (((bN,(vs,(ns,(t,())))),()),()) hb;have c3:f98 (((bN,(vs,(ns,(t,())))),()),())=some ((cT ⟨bN,vs,ns,t⟩,()),()):=c3;cases hk:cT ⟨bN,vs,ns,t⟩ with
    |false=>
     rw[hk] at c3;refine .inl ?_
     simp only[f92,c1,Option.bind_some,o_,Bool.not_true,Bool.not_false,cond_true,d,cond_false,c2,rF,c3]
    |true=>
     rw[hk] at c3;have dh:=HU ⟨bN,vs,ns,t⟩ hb hk;have dh:f148 (((bN,(vs,(ns,(t,())))),()),())=_:=dh;cases he:bO ⟨bN,vs,ns,t⟩==s with
     |false=>
      refine .inl ?_
      simp only[f92,c1,Option.bind_some,o_,Bool.not_true,Bool.not_false,cond_true,d,cond_false,c2,rF,c3,dh,he]
     |true=>
      refine .inr ⟨⟨bN,vs,ns,t⟩,?_,hk,eq_of_beq he,hl⟩;simp only[f92,c1,Option.bind_some,o_,Bool.not_true,Bool.not_false,cond_true,d,cond_false,c2,rF,c3,dh,he]
  ·have d:decide ((s.length:Int)>4000)=true:=decide_eq_true (by omega)
   refine .inl ?_
   simp only[f92,c1,Option.bind_some,o_,Bool.not_true,Bool.not_false,cond_true,d]
def awv(D:Option aT):yg.J:=match D with|some p=>s4 p|none=>NR
theorem ae2(s:F)(hs:s.length<=2000000):∃D:Option aT,f92 ((s,()),())=some (awv D)/\rP D (Z2 s):=by
 rcases abv s hs with h|⟨p,h,h1,h2,h3⟩
 ·refine⟨none,h,fun p=>⟨fun hp=>(by cases hp),fun⟨q1,q2,dq⟩=>?_⟩⟩
  subst q2;have:=Fc q1 dq;rw[h] at this;simp only[Option.some.injEq,Prod.mk.injEq] at this;exact absurd this.1.2.1 (by decide)
 ·refine⟨some p,h,fun q=>⟨fun hp=>?_,fun⟨q1,q2,dq⟩=>?_⟩⟩
  ·cases hp;exact⟨h1,h2,h3⟩
  ·subst q2;have:=Fc q1 dq;rw[h] at this;rw[al0 (Option.some.inj this)]
noncomputable abbrev avo:bl:=[(46,_Z),(89,vy),(90,EJ),(91,pO),(92,_L),(93,_K)]
theorem EN:bc Z (bi ak avo):=bj ⟨z46,yb,LY,z91,ar2,z93,⟨⟩⟩
abbrev Rq:Shape:=⟨[aq 0,a8 2 2 0,a8 4 4 0,a' 6 3000384,ad 7],[bI 5000128 .pack 2 0,a7 2 [.own 5000128],bI 5000256 .pack 4 0,a7 4 [.own 5000256],bg 3000384 .str 6 0],73⟩
abbrev Q':List aR:=[(.norm,⟨[aq 0,a8 2 2 0,a8 4 4 0,a' 6 3000384,ad 7,aC 37],[bI 5000128 .pack 2 0,a7 2 [.own 5000128],bI 5000256 .pack 4 0,a7 4 [.own 5000256],bg 3000384 .str 6 0],73⟩)]
noncomputable def ru(y:Rq.J):Option (aF Q'):=
 bif(!(decide ((y.2.2.2.2.2.1.length:Int)<(2:Int)))) then
(aU y.2.2.2.2.2.1.length (1:Int)).bind fun a=>
(y.2.2.2.2.2.1[a]?).bind fun b=>
(f91 ((y.1.2.2.2.2.1,(1:Int),(b.length:Int),()),())).bind fun c=>
 some ((y.1.1,(),(),(),y.1.2.2.2.2.1,(!c.1.1),()),y.2.1,((),()),y.2.2.2.1,((),()),y.2.2.2.2.2.1,())
else
 some ((y.1.1,(),(),(),y.1.2.2.2.2.1,true,()),y.2.1,((),()),y.2.2.2.1,((),()),y.2.2.2.2.2.1,())
theorem ahj:aX Z (ap (di (ap (codeOf Tryz.f49) 1 60)) 120 7724) (bb Rq Q' ru):=c8 EN (by kernel_rfl) aj fun y=>by kernel_rfl
abbrev w7:Shape:=⟨[aq 0,a8 2 2 0,a8 4 4 0,aq 5],[bI 5000128 .pack 2 0,a7 2 [.own 5000128],bI 5000256 .pack 4 0,a7 4 [.own 5000256]],73⟩
abbrev Cf:List aR:=[(.ret,⟨[a8 2 2 0,aC 3],[bI 5000128 .pack 2 0,a7 2 [.own 5000128]],73⟩),(.exit 0,⟨[aq 0,a8 2 2 0,a8 4 4 0],[bI 5000128 .pack 2 0,a7 2 [.own 5000128],bI 5000256 .pack 4 0,a7 4 [.own 5000256]],73⟩)]
noncomputable def o'(y:w7.J):bR w7 Cf:=
 bif(!(y.1.2.2.2.1==([]:F))) then
 bif(decide ((y.2.2.2.1.length:Int)<=(5:Int))) then
(f89 ((y.1.2.2.2.1,(10:Int),(1:Int),()),())).bind fun a=>
(aU a.2.1.length (0:Int)).bind fun b=>
(a.2.1[b]?).bind fun c=>
(f90 ((c,()),())).bind fun d=>
(ru ((y.1.1,(),(),(),d.1.1,()),y.2.1,((),()),y.2.2.2.1,((),()),a.2.1,())).bind fun e=>
 bif e.1.2.2.2.2.2.1 then
 some (.inr (.inl (((),false,()),([]:List aT),((),()),())))
else
(aU e.2.2.2.2.2.1.length (1:Int)).bind fun f=>
(e.2.2.2.2.2.1[f]?).bind fun g=>
(bD g (0:Int) e.1.2.2.2.2.1).bind fun h=>
(f92 ((h,()),())).bind fun i=>
 bif(!i.1.2.1) then
 some (.inr (.inl (((),false,()),([]:List aT),((),()),())))
else
(cw 80 e.2.2.2.1 ([(aT.mk i.2.2.2.1.1 i.2.2.2.1.2.1 i.2.1 i.2.2.1)]:List aT)).bind fun j=>
(aU e.2.2.2.2.2.1.length (1:Int)).bind fun k=>
(e.2.2.2.2.2.1[k]?).bind fun l=>
(bD l e.1.2.2.2.2.1 (l.length:Int)).bind fun m=>
 some (.inl ((e.1.1,(),(),m,()),e.2.1,((),()),j,((),()),()))
else
 some (.inr (.inr ((y.1.1,(),(),()),y.2.1,((),()),y.2.2.2.1,((),()),())))
else
 some (.inr (.inr ((y.1.1,(),(),()),y.2.1,((),()),y.2.2.2.1,((),()),())))
noncomputable def xb:w7.J->Option (aF Cf):=bu o'
theorem ali:aX Z (ap (codeOf Tryz.f49) 1 60) (bb w7 Cf xb):=bW EN (by kernel_rfl) (bd ahj aj) fun y=>by kernel_rfl
abbrev So:Shape:=⟨[aq 0,a8 2 2 0,a8 4 4 0],[bI 5000128 .pack 2 0,a7 2 [.own 5000128],bI 5000256 .pack 4 0,a7 4 [.own 5000256]],73⟩
abbrev R':List aR:=[(.norm,⟨[a8 2 2 0,a8 4 4 0,aC 70],[bI 5000128 .pack 2 0,a7 2 [.own 5000128],bI 5000256 .pack 4 0,a7 4 [.own 5000256]],73⟩)]
noncomputable def tJ(y:So.J):Option (aF R'):=
(f46 (((y.2.2.2.1,()),()),())).bind fun a=>
 bif(!(!a.1.1)) then
(f93 (((y.2.2.2.1,()),()),())).bind fun b=>
 some (((),(),(!(b.1.1==y.1.1)),()),y.2.1,((),()),y.2.2.2.1,((),()),())
else
 some (((),(),true,()),y.2.1,((),()),y.2.2.2.1,((),()),())
theorem ai0:aX Z (ap (codeOf Tryz.f49) 1 124) (bb So R' tJ):=c8 EN (by kernel_rfl) aj fun y=>by kernel_rfl
abbrev i49:Shape:=⟨[aq 0],[],73⟩
abbrev yi:Shape:=⟨[a8 2 2 0,aC 3],[bI 5000128 .pack 2 0,a7 2 [.own 5000128]],73⟩
noncomputable def f49(a:i49.J):Option yi.J:=
(xb ((a.1.1,(),(),a.1.1,()),([]:List aT),((),()),([]:List aT),((),()),())).bind fun b=>
(match b with
|.inl c=>
 some (((),c.1.2.1,()),c.2.1,((),()),())
|.inr d=>
(tJ ((d.1.1,(),(),()),d.2.1,((),()),d.2.2.2.1,((),()),())).bind fun e=>
 bif e.1.2.2.1 then
 some (((),false,()),([]:List aT),((),()),())
else
 some (((),true,()),e.2.2.2.1,((),()),()))
noncomputable def _X:aK:=a6 ak Tryz.f49 i49 yi [] f49
theorem z49:aL Z 49 _X:=ba EN Tryz.func49 (by kernel_rfl) (bd ali (bd ai0 aj)) (fun y=>by kernel_rfl) fun a=>by kernel_rfl
abbrev s7(s rest:F)(ps:List aT):w7.J:=((s,((),((),(rest,())))),(([]:List aT),(((),()),(ps,(((),()),())))))
abbrev aaQ(s:F)(ps:List aT):aF Cf:=.inr ((s,((),((),()))),(([]:List aT),(((),()),(ps,(((),()),())))))
abbrev E8(ps:List aT):yi.J:=(((),(true,())),(ps,(((),()),())))
abbrev EL:yi.J:=(((),(false,())),(([]:List aT),(((),()),())))
def Nd(D:Option (List aT)):yi.J:=match D with|some ps=>E8 ps|none=>EL
theorem akT(s:F):∀(m:Nat) (r:F) (ps:List aT),r.length<=m->m<=2000000->ps.length<=6->qE ps->
  xb (s7 s r ps)=some (.inl EL)\/∃bS:List aT,xb (s7 s r ps)=some (aaQ s bS)/\qE bS/\bS.length<=6:=by
 intro m;induction m with
 |zero=>
  intro r ps hs _ hl ha;have:r=[]:=List.length_eq_zero_iff.1 (by omega)
  subst this;exact .inr ⟨ps,cx rfl,ha,hl⟩
 |succ m ih=>
  intro r ps hs hm hl ha;cases r with
  |nil=>exact .inr ⟨ps,cx rfl,ha,hl⟩
  |cons b r0=>
   have hne:((b::r0)==([]:F))=false:=rfl;generalize ee:b::r0=r at hs hne;by_cases br:ps.length<=5
   ·have d:decide (((ps.length:Nat):Int)<=5)=true:=decide_eq_true (by omega)
    have c1:=mL 10 r (by omega) 1
    have c1:f89 ((r,((10:Int),((1:Int),()))),())=_:=c1;cases al:dv 10 r with
    |none=>
     have ef:splitN 10 1 r=[r]:=by unfold splitN;rw[al]
     rw[ef] at c1;have n0:=rl r (by unfold am;omega)
     have i0:aU ([r]:List F).length (0:Int)=some 0:=rfl;have fG:([r]:List F)[0]? =some r:=rfl;have d2:decide ((([r]:List F).length:Int)<2)=true:=rfl;refine .inl (cx ?_);simp only[o',hne,Bool.not_false,cond_true,d,c1,Option.bind_some,i0,fG,n0,ru,d2,Bool.not_true,cond_false]
    |some q=>
     obtain⟨bV,rest⟩:=q;have hlen:=(jO al).1;have hlen:r.length=bV.length+1+rest.length:=by rw[hlen];simp;omega
     have ef:splitN 10 1 r=[bV,rest]:=by unfold splitN;rw[al];rfl
     rw[ef] at c1;have n0:=rl bV (by unfold am;omega)
     have i0:aU ([bV,rest]:List F).length (0:Int)=some 0:=rfl;have i1:aU ([bV,rest]:List F).length (1:Int)=some 1:=rfl;have fG:([bV,rest]:List F)[0]? =some bV:=rfl;have eD:([bV,rest]:List F)[1]? =some rest:=rfl;have d2:decide ((([bV,rest]:List F).length:Int)<2)=false:=rfl;have hin:=o7 ((hM bV,((1:Int),((rest.length:Int),()))),());have hin:f91 ((hM bV,((1:Int),((rest.length:Int),()))),())=some ((within (hM bV) 1 (rest.length:Int),()),()):=hin;cases hw:within (hM bV) 1 (rest.length:Int) with
     |false=>
      rw[hw] at hin;refine .inl (cx ?_);simp only[o',hne,Bool.not_false,cond_true,d,c1,Option.bind_some,i0,fG,n0,ru,d2,i1,eD,hin]
     |true=>
      rw[hw] at hin;have hb:=tr hw;obtain⟨n,hn⟩:∃n:Nat,hM bV=(n:Int):=⟨(hM bV).toNat,by omega⟩
      rw[hn] at hin n0 hb;have s1:bD rest 0 ((n:Nat):Int)=some (rest.take n):=iJ (by omega)
      have s2:bD rest ((n:Nat):Int) ((rest.length:Nat):Int)=some (rest.drop n):=hI (by omega)
      have atn:(rest.take n).length<=2000000:=by simp;omega
      obtain⟨D,g1,g2⟩:=ae2 (rest.take n) atn;cases D with
      |none=>
       have g1:f92 ((rest.take n,()),())=some NR:=g1;refine .inl (cx ?_);simp only[o',hne,Bool.not_false,cond_true,d,c1,Option.bind_some,i0,fG,n0,ru,d2,i1,eD,hin,Bool.not_true,cond_false,s1,g1]
      |some p=>
       have g1:f92 ((rest.take n,()),())=some (s4 p):=g1;obtain⟨iZ,iY,p3⟩:=(g2 p).1 rfl;have fx:cw 80 ps ([(aT.mk p.name p.aW p.bh p.bK)]:List aT)=some (ps++[p]):=ew (by decide) (by unfold am;simp;omega)
       have st:o' (s7 s r ps)=some (.inl (s7 s (rest.drop n) (ps++[p]))):=by
        simp only[o',hne,Bool.not_false,cond_true,d,c1,Option.bind_some,i0,fG,n0,ru,d2,i1,eD,hin,Bool.not_true,cond_false,s1,g1,fx,s2]
       rcases ih (rest.drop n) (ps++[p]) (by simp;omega) (by omega) (by simp;omega) (fun z hz=>by
        rcases List.mem_append.1 hz with hz|hz
        ·exact ha z hz
        ·rw[List.mem_singleton.1 hz];exact⟨iZ,by rw[iY];exact p3⟩) with e|⟨bS,e1,e2⟩
       ·exact .inl ((dL st).trans e)
       ·exact .inr ⟨bS,(dL st).trans e1,e2⟩
   ·have d:decide (((ps.length:Nat):Int)<=5)=false:=decide_eq_false (by omega)
    refine .inr ⟨ps,cx ?_,ha,hl⟩;simp only[o',hne,Bool.not_false,cond_true,d,cond_false]
theorem ahI{ps:List aT}(h:qE ps)(br:ps.length<=5):(dT ps).length<=30000:=by
 have h1:=wB (f:=fun p=>fX (bO p)) (xs:=ps) (n:=5000) fun q al=>by
  have:=(h q al).2;have:=oU (bO q).length (by omega)
  show(fX (bO q)).length<=5000;unfold fX;simp;omega
 have e:(dT ps).length=(ps.flatMap fun p=>fX (bO p)).length:=rfl
 have cB:ps.length*5000<=6*5000:=Nat.mul_le_mul_right _ (by omega)
 omega
theorem akS(s:F):∀(bS ps:List aT),qE bS->ps.length+bS.length<=5->xb (s7 s (dT bS) ps)=some (aaQ s (ps++bS)):=by
 intro bS;induction bS with
 |nil=>intro ps _ _;rw[List.append_nil];exact cx rfl
 |cons p bS ih=>
  intro ps h hl;obtain⟨h1,h2⟩:=h p List.mem_cons_self;simp only[List.length_cons] at hl;have hR:dT (p::bS)=fX (bO p)++dT bS:=F9 p bS;have gr:=P5 (bO p) (dT bS);have hlen:=ahI (ps:=p::bS) h (by simp;omega)
  rw[hR] at hlen ⊢;generalize hr:fX (bO p)++dT bS=r at gr hlen;have ef:splitN 10 1 r=[Lib.itoa ((bO p).length:Int),bO p++dT bS]:=by unfold splitN;rw[gr];rfl
  have hne:(r==([]:F))=false:=by
   have:=(jO gr).1;cases hx:r with
   |nil=>rw[hx] at this;simp at this
   |cons b r=>rfl
  have d:decide (((ps.length:Nat):Int)<=5)=true:=decide_eq_true (by omega)
  have c1:=mL 10 r (by omega) 1
  rw[ef] at c1;have c1:f89 ((r,((10:Int),((1:Int),()))),())=_:=c1;have ax0:=oU (bO p).length (by omega)
  have n0:=rl (Lib.itoa ((bO p).length:Int)) (by unfold am;omega)
  rw[F' _ (by omega)] at n0
  generalize Lib.itoa ((bO p).length:Int)=bV at c1 n0;have i0:aU ([bV,bO p++dT bS]:List F).length (0:Int)=some 0:=rfl;have i1:aU ([bV,bO p++dT bS]:List F).length (1:Int)=some 1:=rfl;have fG:([bV,bO p++dT bS]:List F)[0]? =some bV:=rfl;have eD:([bV,bO p++dT bS]:List F)[1]? =some (bO p++dT bS):=rfl;have d2:decide ((([bV,bO p++dT bS]:List F).length:Int)<2)=false:=rfl;have oj:1<=(bO p).length:=by rw[wK];simp only[List.length_append,List.length_cons];omega
  have hin:=o7 ((((bO p).length:Int),((1:Int),(((bO p++dT bS).length:Int),()))),());have hin:f91 ((((bO p).length:Int),((1:Int),(((bO p++dT bS).length:Int),()))),())=some ((true,()),()):=by
   rw[hin];have:within ((bO p).length:Int) 1 ((bO p++dT bS).length:Int)=true:=by
    unfold within;rw[decide_eq_true (by omega),decide_eq_true (by simp only[List.length_append];omega)]
    rfl
   show some ((within ((bO p).length:Int) 1 ((bO p++dT bS).length:Int),()),())=_;rw[this]
  have s1:bD (bO p++dT bS) 0 (((bO p).length:Nat):Int)=some (bO p):=by rw[iJ (by simp),List.take_left' rfl]
  have s2:bD (bO p++dT bS) (((bO p).length:Nat):Int) (((bO p++dT bS).length:Nat):Int)=some (dT bS):=by rw[hI (by simp),List.drop_left' rfl]
  have g1:=Fc h1 h2;have fx:cw 80 ps ([(aT.mk p.name p.aW p.bh p.bK)]:List aT)=some (ps++[p]):=ew (by decide) (by unfold am;simp;omega)
  have st:o' (s7 s r ps)=some (.inl (s7 s (dT bS) (ps++[p]))):=by
   simp only[o',hne,Bool.not_false,cond_true,d,c1,Option.bind_some,i0,fG,n0,ru,d2,i1,eD,hin,Bool.not_true,cond_false,s1,g1,fx,s2]
  have:=ih (ps++[p]) (fun r hr=>h r (List.mem_cons_of_mem _ hr)) (by simp;omega)
  rw[List.append_assoc] at this;exact(dL st).trans this
theorem ae1(s:F)(hs:s.length<=2000000):∃D:Option (List aT),f49 ((s,()),())=some (Nd D)/\rP D (u_ s):=by
 have put:∀ps:List aT,u_ s ps->f49 ((s,()),())=some (E8 ps):=by
  intro ps ⟨h1,h2,h3⟩;have hl:ps.length<=5:=(vQ h1).2;obtain⟨hb,hv⟩:=wR h3 (by omega)
  have g:=akS s ps [] h3 (by simpa using hl)
  rw[h2] at g;have e:=Q1 (((ps,()),()),()) hb hv;have e:f46 (((ps,()),()),())=some ((kH ps,()),()):=e;rw[h1] at e;have e2:=R1 ps hb (vQ h1).1;simp only[f49,g,List.nil_append,Option.bind_some,tJ,e,Bool.not_true,Bool.not_false,cond_true,cond_false,e2,h2,beq_self_eq_true]
 have any:f49 ((s,()),())=some EL\/∃ps,f49 ((s,()),())=some (E8 ps)/\u_ s ps:=by
  rcases akT s s.length s [] (Nat.le_refl _) hs (by decide) (fun x hx=>by cases hx) with g|⟨bS,g,h2,h3⟩
  ·refine .inl ?_
   simp only[f49,g,Option.bind_some]
  ·obtain⟨hb,hv⟩:=wR h2 h3;have e:=Q1 (((bS,()),()),()) hb hv;have e:f46 (((bS,()),()),())=some ((kH bS,()),()):=e;cases hr:kH bS with
   |false=>
    rw[hr] at e;refine .inl ?_
    simp only[f49,g,Option.bind_some,tJ,e,Bool.not_false,Bool.not_true,cond_true,cond_false]
   |true=>
    rw[hr] at e;have e2:=R1 bS hb (vQ hr).1;cases he:dT bS==s with
    |false=>
     refine .inl ?_
     simp only[f49,g,Option.bind_some,tJ,e,Bool.not_false,Bool.not_true,cond_true,cond_false,e2,he]
    |true=>
     refine .inr ⟨bS,?_,hr,eq_of_beq he,h2⟩;simp only[f49,g,Option.bind_some,tJ,e,Bool.not_false,Bool.not_true,cond_true,cond_false,e2,he]
 rcases any with h|⟨ps,h,hr⟩
 ·refine⟨none,h,fun p=>⟨fun hp=>(by cases hp),fun hp=>?_⟩⟩
  have:=put p hp;rw[h] at this;simp only[Option.some.injEq,Prod.mk.injEq] at this;exact absurd this.1.2.1 (by decide)
 ·refine⟨some ps,h,fun q=>⟨fun hp=>by cases hp;exact hr,fun hp=>?_⟩⟩
  have:=put q hp;rw[h] at this;simp only[Option.some.injEq,Prod.mk.injEq] at this;rw[this.2.1]
noncomputable abbrev avA:bl:=[(16,_6),(17,Vl),(31,_2),(49,_X),(50,_W)]
theorem yY:bc Z (bi ak avA):=bj ⟨ase,amq,z31,z49,ar8,⟨⟩⟩
abbrev Sy:Shape:=⟨[aq 0,a8 3 3 0,aC 4,a8 5 5 0,aC 6],[bI 5000192 .pack 3 0,a7 3 [.own 5000192],(5000320,.deep .pack,.cell 5 0),a7 5 [.own 5000320]],66⟩
abbrev Sj:List aR:=[(.norm,⟨[aq 0,a8 3 3 0,aC 4,a8 5 5 0,aC 32],[bI 5000192 .pack 3 0,a7 3 [.own 5000192],(5000320,.deep .pack,.cell 5 0),a7 5 [.own 5000320]],66⟩)]
noncomputable def B3(y:Sy.J):Option (aF Sj):=
(f16 (((y.2.2.2.1,()),(y.2.1,()),()),())).bind fun a=>
 bif(!(!a.1.1)) then
 some ((y.1.1,(),y.1.2.2.1,(),(!(y.1.2.2.2.2.1==y.1.2.2.1)),()),y.2.1,((),()),y.2.2.2.1,((),()),())
else
 some ((y.1.1,(),y.1.2.2.1,(),true,()),y.2.1,((),()),y.2.2.2.1,((),()),())
theorem ajJ:aX Z (ap (codeOf Tryz.f10) 1 124) (bb Sy Sj B3):=c8 yY (by kernel_rfl) aj fun y=>by kernel_rfl
abbrev Qi:Shape:=⟨[a8 3 3 0,aC 4,a8 5 5 0,ad 7,a8 9 9 0,aC 10],[bI 5000192 .pack 3 0,a7 3 [.own 5000192],(5000320,.deep .pack,.cell 5 0),a7 5 [.own 5000320],(5000576,.deep .pack,.cell 9 0),a7 9 [.own 5000576]],66⟩
abbrev P1:List aR:=[(.norm,⟨[a8 5 5 0,ad 7,aC 57],[(5000320,.deep .pack,.cell 5 0),a7 5 [.own 5000320]],66⟩)]
noncomputable def Ak(y:Qi.J):Option (aF P1):=
(f16 (((y.2.2.2.2.2.1,()),(y.2.1,()),()),())).bind fun a=>
 bif(!(!a.1.1)) then
 some (((),y.1.2.2.2.1,(!(y.1.2.2.2.2.2.1==y.1.2.1)),()),y.2.2.2.1,((),()),())
else
 some (((),y.1.2.2.2.1,true,()),y.2.2.2.1,((),()),())
theorem afT:aX Z (ap (codeOf Tryz.f10) 1 32764) (bb Qi P1 Ak):=c8 yY (by kernel_rfl) aj fun y=>by kernel_rfl
abbrev i10:Shape:=⟨[aq 0],[],66⟩
abbrev ZW:Shape:=⟨[aC 2],[],66⟩
noncomputable def f10(a:i10.J):Option ZW.J:=
 bif(decide ((a.1.1.length:Int)>(1048576:Int))) then
 some ((true,()),())
else
(f49 ((a.1.1,()),())).bind fun b=>
(f50 ((a.1.1,()),())).bind fun c=>
(B3 ((a.1.1,(),b.1.2.1,(),c.1.2.1,()),b.2.1,((),()),c.2.1,((),()),())).bind fun d=>
 bif d.1.2.2.2.2.1 then
 some ((false,()),())
else
(Di ((((),()),(1:Int),()),d.2.2.2.1,())).bind fun e=>
(f31 (((e.2.1,()),(1:Int),()),())).bind fun f=>
 bif(decide (f.1.1<(0:Int))) then
 some ((false,()),())
else
 bif(f.1.1 !=e.1.2.1) then
 some ((false,()),())
else
(f50 ((d.1.1,()),())).bind fun g=>
(Ak (((),d.1.2.2.1,(),e.1.2.1,(),g.1.2.1,()),d.2.1,((),()),e.2.1,((),()),g.2.1,((),()),())).bind fun h=>
 bif h.1.2.2.1 then
 some ((false,()),())
else
(f31 (((h.2.1,()),(1:Int),()),())).bind fun i=>
 bif(decide (i.1.1<(0:Int))) then
 some ((false,()),())
else
 bif(i.1.1 !=h.1.2.1) then
 some ((false,()),())
else
 some ((true,()),())
noncomputable def lJ:aK:=a6 ak Tryz.f10 i10 ZW [] f10
theorem L0:aL Z 10 lJ:=ba yY Tryz.func10 (by kernel_rfl) (bd ajJ (bd afT aj)) (fun y=>by kernel_rfl) fun a=>by kernel_rfl
theorem aa5(s:F):f10 ((s,()),())=some ((true,()),()):=by
 simp only[f10];by_cases h:(s.length:Int)>1048576
 ·simp only[h,decide_true,cond_true]
 ·have hs:s.length<=1048576:=by omega
  obtain⟨D,e1,iZ⟩:=ae1 s (by omega)
  obtain⟨cW,e2,iY⟩:=adz s (by omega)
  have ay:cW=D:=iY.aoN iZ;subst ay;have hk:∀ps:List aT,decide (eA 1 ps<0)=false:=fun ps=>decide_eq_false (by have:=wY ps 1;omega)
  cases cW with
  |none=>
   have hb:ic ([]:List aT):=⟨Nat.zero_le _,fun e he=>by simp at he⟩
   simp only[Nd,EL] at e1;simp only[M8,EH] at e2;simp only[h,decide_false,cond_false,e1,e2,Option.bind_some,B3,Q0 [] hb,Bool.not_true,Bool.not_false,cond_true,beq_self_eq_true,O7 [] hb,O9 [] hb,hk,Dp,Ak]
  |some ps=>
   obtain⟨r1,r2,jJ⟩:=(iZ ps).1 rfl;obtain⟨hb,_⟩:=wR jJ (by have:=(vQ r1).2;omega)
   simp only[Nd,E8] at e1;simp only[M8,E2] at e2;simp only[h,decide_false,cond_false,e1,e2,Option.bind_some,B3,Q0 ps hb,Bool.not_true,Bool.not_false,cond_true,beq_self_eq_true,O7 ps hb,O9 ps hb,hk,Dp,Ak]
theorem pure_FnExactRootGet:LawOk lJ [(false,[.str])]:=by
 rintro⟨⟨s,u⟩,b9⟩ ⟨h,_⟩;exact⟨((true,()),()),aa5 s,rfl⟩
end Go.Proofs
