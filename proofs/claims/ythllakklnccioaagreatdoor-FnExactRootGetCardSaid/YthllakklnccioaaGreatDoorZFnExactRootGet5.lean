/- FnExactRootGet: the program's RootGet returns what the reference's returns, for all arguments. (part 6 of 7: JkMPuGk, JkMPuGl, JkMF198, JkMPuGm, JkMPuGn, JkMPuGo, JkMF199, JkMPuGp, JkMF146, JkMF147, JkMPuGq, JkMF92, JkMPuGr, JkMF49, JkMPuGs, JkMF10, JkMPuHc) Conditions: none beyond the statement. -/
import Derived.Test.YthllakklnccioaaGreatDoorZFnExactRootGet4
import Derived.Tactics
import Derived.Deep.RegionLaw
import Derived.Shelf.Abstract
import Derived.Test.YthllakklnccioaaGreatDoorProg
import Derived.KernelRfl
set_option maxRecDepth 100000
set_option linter.unusedVariables false
set_option linter.unusedSimpArgs false
namespace Go.Proofs
open Go.Jk
abbrev qD(ps:List aT):Prop:=∀p,p∈ps->cT p=true/\(bO p).length<=4000
def u'(s:F)(ps:List aT):Prop:=kG ps=true/\dV ps=s/\qD ps
abbrev E4(ps:List aT):yi.J:=(((),(true,())),(ps,(((),()),())))
abbrev EJ:yi.J:=(((),(false,())),(([]:List aT),(((),()),())))
def M6(D:Option (List aT)):yi.J:=match D with|some ps=>E4 ps|none=>EJ
theorem wS{ps:List aT}(h:qD ps)(hl:ps.length<=6):ic ps/\vL ps:=by
 refine⟨⟨by show ps.length<=2097152;omega,fun p hp=>JI (h p hp).1 (h p hp).2⟩,fun p hp=>?_⟩
 obtain⟨hk,al⟩:=h p hp;obtain⟨q1,q2,dq,kA⟩:=zF p;refine⟨by omega,fun n hn=>?_⟩
 have h:=Fm cR hn;have fv:(cR n).length=(cS n).length+6:=by unfold cR;simp
 have hp:n.name.length+n.aW.length<=(cS n).length:=by unfold cS;simp
 omega
theorem F_(p:aT)(ps:List aT):dV (p::ps)=fX (bO p)++dV ps:=by unfold dV;rw[List.flatMap_cons]
theorem akV:∀(m:Nat) (s:F) (ps:List aT),s.length<=m->m<=1000000000->ps.length<=5->
  xb (((),((),(s,()))),(([]:List aT),(((),()),(ps,()))))=some (.inl EJ)\/
  ∃bS:List aT,xb (((),((),(s,()))),(([]:List aT),(((),()),(ps,()))))=some (.inr (((),((),())),(([]:List aT),(((),()),(ps++bS,())))))/\dV bS=s/\qD bS/\(ps++bS).length<=5:=by
 intro m;induction m with
 |zero=>
  intro s ps hs _ hl;have:s=[]:=List.length_eq_zero_iff.1 (by omega)
  subst this;exact .inr ⟨[],by rw[List.append_nil];exact cx rfl,rfl,fun p hp=>(by cases hp),by simpa using hl⟩
 |succ m ih=>
  intro s ps hs hm hl;cases s with
  |nil=>exact .inr ⟨[],by rw[List.append_nil];exact cx rfl,rfl,fun p hp=>(by cases hp),by simpa using hl⟩
  |cons b iY=>
   have hne:((b::iY)==([]:F))=false:=rfl;generalize ef:b::iY=s at hs hne;have z:=Ou s (by unfold am;omega)
   cases hz:mc s with
   |none=>
    rw[hz] at z;refine .inl (cx ?_);simp only[qn,hne,Bool.not_false,cond_true,z,Option.bind_some,Option.isSome_none,rs,Bool.not_true,cond_false]
   |some q=>
    obtain⟨x,y⟩:=q;obtain⟨aw,an⟩:=Pm hz;rw[hz] at z;have z:f94 ((s,()),())=some ((x,(y,(true,()))),()):=z;by_cases bq:ps.length=5
    ·refine .inl (cx ?_);have d:(((ps.length:Nat):Int)==5)=true:=by rw[beq_iff_eq];omega
     simp only[qn,hne,Bool.not_false,cond_true,z,Option.bind_some,rs,Bool.not_true,cond_false,d]
    ·have d:(((ps.length:Nat):Int)==5)=false:=by rw[beq_eq_false_iff_ne];omega
     have hx:x.length<=s.length:=by rw[aw];unfold fX;simp;omega
     obtain⟨D,g1,g2⟩:=ady x (by unfold am;omega)
     cases D with
     |none=>
      have g1:f95 ((x,()),())=some NL:=g1;refine .inl (cx ?_);simp only[qn,hne,Bool.not_false,cond_true,z,Option.bind_some,rs,Bool.not_true,cond_false,d,g1]
     |some p=>
      have g1:f95 ((x,()),())=some (s6 p):=g1;obtain⟨i_,iZ,p3⟩:=(g2 p).1 rfl;have fw:cw 80 ps ([(aT.mk p.name p.aW p.bh p.bK)]:List aT)=some (ps++[p]):=ey (by decide) (by unfold am;simp;omega)
      have st:qn (((),((),(s,()))),(([]:List aT),(((),()),(ps,()))))=some (.inl (((),((),(y,()))),(([]:List aT),(((),()),(ps++[p],()))))):=by
       simp only[qn,hne,Bool.not_false,cond_true,z,Option.bind_some,rs,Bool.not_true,cond_false,d,g1,fw]
      rcases ih y (ps++[p]) (by omega) (by omega) (by simp;omega) with e|⟨bS,e1,e2,bp,dW⟩
      ·exact .inl ((dL st).trans e)
      ·rw[List.append_assoc] at e1 dW;refine .inr ⟨p::bS,(dL st).trans e1,by rw[F_,e2,iZ,<-aw],fun r hr=>?_,dW⟩
       rcases List.mem_cons.1 hr with rfl|hr
       ·exact⟨i_,by rw[iZ];exact p3⟩
       ·exact bp r hr
theorem akU:∀(bS ps:List aT),qD bS->ps.length+bS.length<=5->
  xb (((),((),(dV bS,()))),(([]:List aT),(((),()),(ps,()))))=some (.inr (((),((),())),(([]:List aT),(((),()),(ps++bS,()))))):=by
 intro bS;induction bS with
 |nil=>intro ps _ _;rw[List.append_nil];exact cx rfl
 |cons p bS ih=>
  intro ps h hl;obtain⟨h1,h2⟩:=h p List.mem_cons_self;have hz:=afl (bO p) (dV bS) (by omega)
  rw[<-F_] at hz;have hlen:(dV (p::bS)).length<=30000:=by
   have:=wC (f:=fun p=>fX (bO p)) (xs:=p::bS) (n:=5000) fun q al=>by
    have:=(h q al).2;have:=oT (bO q).length (by omega)
    show(fX (bO q)).length<=5000;unfold fX;simp;omega
   have e:(dV (p::bS)).length=((p::bS).flatMap fun p=>fX (bO p)).length:=rfl
   simp only[List.length_cons] at hl this;have cB:(bS.length+1)*5000<=6*5000:=Nat.mul_le_mul_right _ (by omega)
   omega
  have z:=Ou (dV (p::bS)) (by unfold am;omega)
  rw[hz] at z;have z:f94 ((dV (p::bS),()),())=some ((bO p,(dV bS,(true,()))),()):=z;have g1:=Fb h1 h2;have hne:(dV (p::bS)==([]:F))=false:=by
   have:=(Pm hz).2;cases hx:dV (p::bS) with
   |nil=>rw[hx] at this;simp at this
   |cons b r=>rfl
  have d:(((ps.length:Nat):Int)==5)=false:=by rw[beq_eq_false_iff_ne];simp at hl;omega
  have fw:cw 80 ps ([(aT.mk p.name p.aW p.bh p.bK)]:List aT)=some (ps++[p]):=ey (by decide) (by unfold am;simp;simp at hl;omega)
  have st:qn (((),((),(dV (p::bS),()))),(([]:List aT),(((),()),(ps,()))))=some (.inl (((),((),(dV bS,()))),(([]:List aT),(((),()),(ps++[p],()))))):=by
   simp only[qn,hne,Bool.not_false,cond_true,z,Option.bind_some,rs,Bool.not_true,cond_false,d,g1,fw]
  have:=ih (ps++[p]) (fun r hr=>h r (List.mem_cons_of_mem _ hr)) (by simp at hl ⊢;omega)
  rw[List.append_assoc] at this;exact(dL st).trans this
theorem adx(s:F)(hs:s.length<=1000000000):∃D:Option (List aT),f50 ((s,()),())=some (M6 D)/\rQ D (u' s):=by
 have put:∀ps:List aT,u' s ps->f50 ((s,()),())=some (E4 ps):=by
  intro ps ⟨h1,h2,h3⟩;subst h2;have hl:ps.length<=5:=(vR h1).2;obtain⟨hb,hv⟩:=wS h3 (by omega)
  have g:=akU ps [] h3 (by simpa using hl)
  have e:=PI (((ps,()),()),()) hb hv;have e:f48 (((ps,()),()),())=some ((kG ps,()),()):=e;rw[h1] at e;simp only[f50,g,List.nil_append,Option.bind_some,e,Bool.not_true,cond_false]
 have any:f50 ((s,()),())=some EJ\/∃ps,f50 ((s,()),())=some (E4 ps)/\u' s ps:=by
  rcases akV s.length s [] (Nat.le_refl _) hs (by decide) with g|⟨bS,g,h1,h2,h3⟩
  ·refine .inl ?_
   simp only[f50,g,Option.bind_some]
  ·rw[List.nil_append] at g h3;obtain⟨hb,hv⟩:=wS h2 (by omega)
   have e:=PI (((bS,()),()),()) hb hv;have e:f48 (((bS,()),()),())=some ((kG bS,()),()):=e;cases hr:kG bS with
   |false=>
    rw[hr] at e;refine .inl ?_
    simp only[f50,g,Option.bind_some,e,Bool.not_false,cond_true]
   |true=>
    rw[hr] at e;refine .inr ⟨bS,?_,hr,h1,h2⟩;simp only[f50,g,Option.bind_some,e,Bool.not_true,cond_false]
 rcases any with h|⟨ps,h,hr⟩
 ·refine⟨none,h,fun p=>⟨fun hp=>(by cases hp),fun hp=>?_⟩⟩
  have:=put p hp;rw[h] at this;simp only[Option.some.injEq,Prod.mk.injEq] at this;exact absurd this.1.2.1 (by decide)
 ·refine⟨some ps,h,fun q=>⟨fun hp=>by cases hp;exact hr,fun hp=>?_⟩⟩
  have:=put q hp;rw[h] at this;simp only[Option.some.injEq,Prod.mk.injEq] at this;rw[this.2.1]
theorem P1{c:UInt8}{k:Nat}{s:F}(h:ck c s):splitN c k s=[s]:=by
 cases k with
 |zero=>rfl
 |succ k=>unfold splitN;rw[ake h]
theorem Pd{c:UInt8}{k:Nat}{a b:F}(h:ck c a):splitN c (k+1) (a++c::b)=a::splitN c k b:=by
 show(match dv c (a++c::b) with|some (x,y)=>x::splitN c k y|none=>[a++c::b])=_
 rw[tC h]
theorem aiO(pre mid rest:F):bE (pre++mid++rest) (pre.length:Int) ((pre.length+mid.length:Nat):Int)=some mid:=by
 rw[rq (by omega) (by simp),show pre.length+mid.length=(pre++mid).length by simp,List.take_left' rfl,List.drop_left' rfl]
theorem ajU(c:UInt8)(s:F)(hs:s.length<=1000000000):∀(rest mid pre:F) (parts:List F) (k kP:Nat),s=pre++mid++rest->ck c mid->parts.length+k=kP->parts.length<=pre.length->
  ∃(JJ:List F) (KI t:F),wP ((s,((c.toNat:Int),((kP:Int),((),((pre.length:Int),(((pre.length+mid.length:Nat):Int),())))))),(parts,()))=some ((s,((),((KI.length:Int),()))),(JJ,()))/\s=KI++t/\JJ++[t]=parts++splitN c k (mid++rest)/\JJ.length<=KI.length:=by
 intro rest;induction rest with
 |nil=>
  intro mid pre parts k kP h1 h2 h3 aD;rw[List.append_nil] at h1;refine⟨parts,pre,mid,cx ?_,h1,by rw[List.append_nil,P1 h2],aD⟩
  have d:decide (((pre.length+mid.length:Nat):Int)<(s.length:Int))=false:=decide_eq_false (by rw[h1];simp)
  simp only[qf,d,cond_false]
 |cons b r ih=>
  intro mid pre parts k kP h1 h2 h3 aD;have hl:s.length=pre.length+mid.length+1+r.length:=by rw[h1];simp;omega
  have d:decide (((pre.length+mid.length:Nat):Int)<(s.length:Int))=true:=decide_eq_true (by omega)
  cases k with
  |zero=>
   refine⟨parts,pre,mid++b::r,cx ?_,by rw[h1,List.append_assoc],rfl,aD⟩
   have d2:decide (((parts.length:Nat):Int)<(kP:Int))=false:=decide_eq_false (by omega)
   simp only[qf,d,d2,cond_true,cond_false]
  |succ k=>
   have d2:decide (((parts.length:Nat):Int)<(kP:Int))=true:=decide_eq_true (by omega)
   have hx:aQ s ((pre.length+mid.length:Nat):Int)=some b:=by
    rw[cc,h1,List.getElem?_append_right (by simp)]
    simp
   have hw:IntKind.i64.wrap (((pre.length+mid.length:Nat):Int)+1)=((pre.length+mid.length+1:Nat):Int):=b6 (by unfold am;omega)
   by_cases hb:b=c
   ·subst hb;have al:(((b.toNat:Nat):Int)==(b.toNat:Int))=true:=by simp
    have hm:bE s (pre.length:Int) ((pre.length+mid.length:Nat):Int)=some mid:=by rw[h1];exact aiO pre mid _
    have ha:cw 16 parts ([mid]:List F)=some (parts++[mid]):=ey (by decide) (by unfold am;simp;omega)
    have hp:(pre++mid++[b]).length=pre.length+mid.length+1:=by simp;omega
    obtain⟨k9,gd,t,g1,g2,g3,g4⟩:=ih [] (pre++mid++[b]) (parts++[mid]) k kP (by rw[h1];simp) (ck.nil b) (by simp;omega) (by rw[hp];simp;omega)
    rw[hp] at g1;refine⟨k9,gd,t,(dL ?_).trans g1,g2,?_,g4⟩
    ·simp only[qf,d,d2,cond_true,hx,Option.bind_some,al,hm,ha,hw];rfl
    ·rw[g3,Pd h2];simp
   ·have al:(((b.toNat:Nat):Int)==(c.toNat:Int))=false:=by
     rw[beq_eq_false_iff_ne];intro h;exact hb (UInt8.toNat_inj.1 (by omega))
    obtain⟨k9,gd,t,g1,g2,g3,g4⟩:=ih (mid++[b]) pre parts (k+1) kP (by rw[h1];simp) (h2.cm fun x hx=>by rw[List.mem_singleton.1 hx];exact hb) h3 aD
    have hp:pre.length+(mid++[b]).length=pre.length+mid.length+1:=by simp;omega
    rw[hp] at g1;refine⟨k9,gd,t,(dL ?_).trans g1,g2,?_,g4⟩
    ·simp only[qf,d,d2,cond_true,hx,Option.bind_some,al,cond_false,hw]
    ·rw[g3];simp
theorem mL(c:UInt8)(s:F)(hs:s.length<=1000000000)(kP:Nat):f89 ((s,((c.toNat:Int),((kP:Int),()))),())=some (((),()),(splitN c kP s,())):=by
 obtain⟨k9,gd,t,g1,g2,g3,g4⟩:=ajU c s hs s [] [] [] kP kP rfl (ck.nil c) (by simp) (Nat.le_refl _)
 have g1:wP ((s,((c.toNat:Int),((kP:Int),((),((0:Int),((0:Int),())))))),(([]:List F),()))=_:=g1;have al:gd.length<=s.length:=by rw[g2];simp
 have e1:bE s (gd.length:Int) ((s.length:Nat):Int)=some t:=by rw[hI al,g2];simp
 have e2:cw 16 k9 ([t]:List F)=some (k9++[t]):=ey (by decide) (by unfold am;simp;omega)
 simp only[f89,g1,Option.bind_some,e1,e2,g3];rfl
noncomputable abbrev aqI:bl:=[(232,Lx),(233,Lw),(234,Lv)]
theorem DY:bc Z (bi ak aqI):=bj ⟨z232,z233,z234,⟨⟩⟩
abbrev Bg:Shape:=⟨[aq 0,a8 2 2 0,aC 3,ad 4],[a7 2 [ax,bz,ax]],75⟩
abbrev Ie:List aR:=[(.exit 0,⟨[aq 0,a8 2 2 0,aC 3,ad 4],[a7 2 [ax,bz,ax]],75⟩)]
noncomputable def rH(y:Bg.J):bR Bg Ie:=
 bif(decide (y.1.2.2.2.1<(y.1.1.length:Int))) then
(aQ y.1.1 y.1.2.2.2.1).bind fun a=>
 bif((a.toNat:Int) !=(61:Int)) then
(aQ y.1.1 y.1.2.2.2.1).bind fun b=>
 bif((b.toNat:Int) !=(62:Int)) then
(aQ y.1.1 y.1.2.2.2.1).bind fun c=>
 bif((c.toNat:Int) !=(60:Int)) then
 some (.inl ((y.1.1,(),y.1.2.2.1,(IntKind.i64.wrap (y.1.2.2.2.1+(1:Int))),()),(y.2.1.1,y.2.1.2.1,y.2.1.2.2.1,()),()))
else
 some (.inr ((y.1.1,(),y.1.2.2.1,y.1.2.2.2.1,()),(y.2.1.1,y.2.1.2.1,y.2.1.2.2.1,()),()))
else
 some (.inr ((y.1.1,(),y.1.2.2.1,y.1.2.2.2.1,()),(y.2.1.1,y.2.1.2.1,y.2.1.2.2.1,()),()))
else
 some (.inr ((y.1.1,(),y.1.2.2.1,y.1.2.2.2.1,()),(y.2.1.1,y.2.1.2.1,y.2.1.2.2.1,()),()))
else
 some (.inr ((y.1.1,(),y.1.2.2.1,y.1.2.2.2.1,()),(y.2.1.1,y.2.1.2.1,y.2.1.2.2.1,()),()))
noncomputable def BD:Bg.J->Option (aF Ie):=br rH
theorem ajj:aX Z (ap (codeOf Tryz.f198) 1 28) (bb Bg Ie BD):=bW DY (by kernel_rfl) aj fun y=>by kernel_rfl
abbrev Pk:Shape:=⟨[aq 0,a8 2 2 0,aC 3,a8 5 5 0,aq 6,ad 7,aq 8],[a7 2 [ax,bz,ax],a7 5 [ax,bz,ax]],75⟩
abbrev Pa:List aR:=[(.norm,⟨[aq 0,a8 2 2 0,aC 3,a8 5 5 0,aq 6,ad 7,aq 8,aC 58],[a7 2 [ax,bz,ax],a7 5 [ax,bz,ax]],75⟩)]
noncomputable def FJ(y:Pk.J):Option (aF Pa):=
 bif(decide ((y.1.2.2.2.2.1.length:Int)>=(y.1.2.2.2.2.2.2.1.length:Int))) then
(bE y.1.2.2.2.2.1 (0:Int) (y.1.2.2.2.2.2.2.1.length:Int)).bind fun a=>
 some ((y.1.1,(),y.1.2.2.1,(),y.1.2.2.2.2.1,y.1.2.2.2.2.2.1,y.1.2.2.2.2.2.2.1,(a==y.1.2.2.2.2.2.2.1),()),(y.2.1.1,y.2.1.2.1,y.2.1.2.2.1,()),(y.2.2.1.1,y.2.2.1.2.1,y.2.2.1.2.2.1,()),())
else
 some ((y.1.1,(),y.1.2.2.1,(),y.1.2.2.2.2.1,y.1.2.2.2.2.2.1,y.1.2.2.2.2.2.2.1,false,()),(y.2.1.1,y.2.1.2.1,y.2.1.2.2.1,()),(y.2.2.1.1,y.2.2.1.2.1,y.2.2.1.2.2.1,()),())
theorem adY:aX Z (ap (di (ap (codeOf Tryz.f198) 1 506)) 1012 32402) (bb Pk Pa FJ):=c8 DY (by kernel_rfl) aj fun y=>by kernel_rfl
abbrev AE:Shape:=⟨[aq 0,a8 2 2 0,aC 3,a8 5 5 0,aq 6,ad 7],[a7 2 [ax,bz,ax],a7 5 [ax,bz,ax]],75⟩
abbrev GX:List aR:=[(.exit 2,⟨[aq 0,a8 2 2 0,aC 3,a8 5 5 0],[a7 2 [ax,bz,ax],a7 5 [ax,bz,ax]],75⟩)]
noncomputable def wA(y:AE.J):bR AE GX:=
 bif(decide (y.1.2.2.2.2.2.1<=(3:Int))) then
(f232 ((y.1.2.2.2.2.2.1,()),())).bind fun a=>
(FJ ((y.1.1,(),y.1.2.2.1,(),y.1.2.2.2.2.1,y.1.2.2.2.2.2.1,a.1.1,()),(y.2.1.1,y.2.1.2.1,y.2.1.2.2.1,()),(y.2.2.1.1,y.2.2.1.2.1,y.2.2.1.2.2.1,()),())).bind fun b=>
 bif b.1.2.2.2.2.2.2.2.1 then
(bE b.1.2.2.2.2.1 (b.1.2.2.2.2.2.2.1.length:Int) (b.1.2.2.2.2.1.length:Int)).bind fun c=>
 some (.inl ((b.1.1,(),b.1.2.2.1,(),b.1.2.2.2.2.1,(IntKind.i64.wrap (b.1.2.2.2.2.2.1+(1:Int))),()),(b.2.1.1,b.2.1.2.1,b.2.1.2.2.1,()),(b.2.2.1.1,b.1.2.2.2.2.2.1,c,()),()))
else
 some (.inl ((b.1.1,(),b.1.2.2.1,(),b.1.2.2.2.2.1,(IntKind.i64.wrap (b.1.2.2.2.2.2.1+(1:Int))),()),(b.2.1.1,b.2.1.2.1,b.2.1.2.2.1,()),(b.2.2.1.1,b.2.2.1.2.1,b.2.2.1.2.2.1,()),()))
else
 some (.inr ((y.1.1,(),y.1.2.2.1,(),()),(y.2.1.1,y.2.1.2.1,y.2.1.2.2.1,()),(y.2.2.1.1,y.2.2.1.2.1,y.2.2.1.2.2.1,()),()))
noncomputable def Hm:AE.J->Option (aF GX):=br wA
theorem ahv:aX Z (ap (codeOf Tryz.f198) 1 506) (bb AE GX Hm):=bW DY (by kernel_rfl) (bd adY aj) fun y=>by kernel_rfl
abbrev i198:Shape:=⟨[aq 0],[],75⟩
abbrev Wr:Shape:=⟨[a8 2 2 0,aC 3],[a7 2 [ax,bz,ax]],75⟩
noncomputable def f198(a:i198.J):Option Wr.J:=
(BD ((a.1.1,(),false,(0:Int),()),(([]:F),(0:Int),([]:F),()),())).bind fun b=>
(bE b.1.1 (0:Int) b.1.2.2.2.1).bind fun c=>
(bE b.1.1 b.1.2.2.2.1 (b.1.1.length:Int)).bind fun d=>
(Hm ((b.1.1,(),b.1.2.2.1,(),d,(1:Int),()),(b.2.1.1,b.2.1.2.1,b.2.1.2.2.1,()),(c,(0:Int),([]:F),()),())).bind fun e=>
(f233 (((e.2.2.1.1,e.2.2.1.2.1,e.2.2.1.2.2.1,()),()),())).bind fun f=>
 bif f.1.1 then
(f234 (((e.2.2.1.1,e.2.2.1.2.1,e.2.2.1.2.2.1,()),()),())).bind fun g=>
 some (((),(g.1.1==e.1.1),()),(e.2.2.1.1,e.2.2.1.2.1,e.2.2.1.2.2.1,()),())
else
 some (((),false,()),(e.2.2.1.1,e.2.2.1.2.1,e.2.2.1.2.2.1,()),())
noncomputable def Yk:aK:=a6 ak Tryz.f198 i198 Wr [] f198
theorem z198:aL Z 198 Yk:=ba DY Tryz.func198 (by kernel_rfl) (bd ajj (bd ahv aj)) (fun y=>by kernel_rfl) fun a=>by kernel_rfl
theorem ajW(s:F)(hs:s.length<=1000000000):∀(t a:F),s=a++t->(∀y,y∈a->fh.contains y=false)->
  ∃cP be:F,BD ((s,((),(false,((a.length:Int),())))),((([]:F),((0:Int),(([]:F),()))),()))=some ((s,((),(false,((cP.length:Int),())))),((([]:F),((0:Int),(([]:F),()))),()))/\s=cP++be/\(∀y,y∈cP->fh.contains y=false)/\(be=[]\/∃x r,be=x::r/\fh.contains x=true):=by
 intro t;induction t with
 |nil=>
  intro a h1 h2;refine⟨a,[],cx ?_,h1,h2,.inl rfl⟩;have d:decide (((a.length:Nat):Int)<(s.length:Int))=false:=decide_eq_false (by rw[h1];simp)
  simp only[rH,d,cond_false]
 |cons b r ih=>
  intro a h1 h2;have hl:s.length=a.length+1+r.length:=by rw[h1];simp;omega
  have d:decide (((a.length:Nat):Int)<(s.length:Int))=true:=decide_eq_true (by omega)
  have hx:aQ s (a.length:Int)=some b:=by
   rw[cc,h1,List.getElem?_append_right (by omega)];simp
  have hw:IntKind.i64.wrap (((a.length:Nat):Int)+1)=((a.length+1:Nat):Int):=b6 (by unfold am;omega)
  cases hb:fh.contains b with
  |true=>
   refine⟨a,b::r,cx ?_,h1,h2,.inr ⟨b,r,rfl,hb⟩⟩;have hc:b=61\/b=60\/b=62:=by simpa[fh] using hb
   rcases hc with rfl|rfl|rfl
   ·have t1:((((61:UInt8).toNat:Nat):Int) !=61)=false:=rfl;simp only[rH,d,cond_true,hx,Option.bind_some,t1,cond_false]
   ·have t1:((((60:UInt8).toNat:Nat):Int) !=61)=true:=rfl;have t2:((((60:UInt8).toNat:Nat):Int) !=62)=true:=rfl;have t3:((((60:UInt8).toNat:Nat):Int) !=60)=false:=rfl;simp only[rH,d,cond_true,hx,Option.bind_some,t1,t2,t3,cond_false]
   ·have t1:((((62:UInt8).toNat:Nat):Int) !=61)=true:=rfl;have t2:((((62:UInt8).toNat:Nat):Int) !=62)=false:=rfl;simp only[rH,d,cond_true,hx,Option.bind_some,t1,t2,cond_false]
  |false=>
   have hc:¬(b=61\/b=60\/b=62):=by
    intro h;rcases h with rfl|rfl|rfl<;>revert hb<;>decide
   have ne:∀k:UInt8,b≠k->(((b.toNat:Nat):Int) !=(k.toNat:Int))=true:=fun k hk=>by
    rw[bne_iff_ne];intro h;exact hk (UInt8.toNat_inj.1 (by omega))
   have t1:(((b.toNat:Nat):Int) !=61)=true:=ne 61 fun h=>hc (.inl h)
   have t2:(((b.toNat:Nat):Int) !=62)=true:=ne 62 fun h=>hc (.inr (.inr h))
   have t3:(((b.toNat:Nat):Int) !=60)=true:=ne 60 fun h=>hc (.inr (.inl h))
   have st:rH ((s,((),(false,((a.length:Int),())))),((([]:F),((0:Int),(([]:F),()))),()))=some (.inl ((s,((),(false,(((a.length+1:Nat):Int),())))),((([]:F),((0:Int),(([]:F),()))),()))):=by
    simp only[rH,d,cond_true,hx,Option.bind_some,t1,t2,t3,hw]
   obtain⟨cP,be,g1,g2⟩:=ih (a++[b]) (by rw[h1];simp) (fun y hy=>by
    rcases List.mem_append.1 hy with hy|hy
    ·exact h2 y hy
    ·rw[List.mem_singleton.1 hy];exact hb)
   rw[show(a++[b]).length=a.length+1 by simp] at g1
   exact⟨cP,be,(dL st).trans g1,g2⟩
def jG(t:F)(k:Int)(q:Int×F):Int×F:=match d' (dN k) t with|some r=>(k,r)|none=>q
theorem IH(s t bN v:F)(k q:Int)(h:k<=3)(h0:0<=k):
  wA ((s,((),(false,((),(t,(k,())))))),((([]:F),((0:Int),(([]:F),()))),((bN,(q,(v,()))),())))=some (.inl ((s,((),(false,((),(t,(k+1,())))))),((([]:F),((0:Int),(([]:F),()))),((bN,((jG t k (q,v)).1,((jG t k (q,v)).2,()))),())))):=by
 have d:decide (k<=3)=true:=decide_eq_true h;have e:=QU k;have hw:IntKind.i64.wrap (k+1)=k+1:=c' (by omega) (by omega)
 unfold jG d';have Y:decide (((t.length:Nat):Int)>=(((dN k).length:Nat):Int))=decide ((dN k).length<=t.length):=by congr 1;apply propext;omega
 simp only[wA,d,cond_true,e,Option.bind_some,FJ,Y];cases hc:decide ((dN k).length<=t.length) with
 |false=>simp only[cond_false,Option.bind_some,Bool.false_and,hw]
 |true=>
  have hle:=of_decide_eq_true hc;have e1:bE t 0 (((dN k).length:Nat):Int)=some (t.take (dN k).length):=iK hle;have e2:bE t (((dN k).length:Nat):Int) ((t.length:Nat):Int)=some (t.drop (dN k).length):=hI hle;simp only[cond_true,e1,Option.bind_some,Bool.true_and];cases t.take (dN k).length==dN k with
  |false=>simp only[cond_false,hw]
  |true=>simp only[cond_true,e2,Option.bind_some,hw]
theorem aff:∀{a cP t be:F},a++t=cP++be->(∀y,y∈a->fh.contains y=false)->(∀y,y∈cP->fh.contains y=false)->(t=[]\/∃x r,t=x::r/\fh.contains x=true)->(be=[]\/∃x r,be=x::r/\fh.contains x=true)->a=cP/\t=be:=by
 intro a;induction a with
 |nil=>
  intro cP t be h h1 h2 h3 aD;cases cP with
  |nil=>exact⟨rfl,h⟩
  |cons b r=>
   have hb:=h2 b List.mem_cons_self;rcases h3 with rfl|⟨x,eF,rfl,hx⟩
   ·cases h
   ·have:x=b:=by simp at h;exact h.1
    rw[this,hb] at hx;cases hx
 |cons b a ih=>
  intro cP t be h h1 h2 h3 aD;cases cP with
  |nil=>
   have hb:=h1 b List.mem_cons_self;rcases aD with rfl|⟨x,eF,rfl,hx⟩
   ·cases h
   ·have:b=x:=by simp at h;exact h.1
    rw[<-this,hb] at hx;cases hx
  |cons bf cP=>
   simp only[List.cons_append,List.cons.injEq] at h;obtain⟨rfl,h⟩:=h;obtain⟨e1,e2⟩:=ih h (fun y hy=>h1 y (List.mem_cons_of_mem _ hy)) (fun y hy=>h2 y (List.mem_cons_of_mem _ hy)) h3 aD
   exact⟨by rw[e1],e2⟩
def fS(t:F):Int×F:=jG t 3 (jG t 2 (jG t 1 (0,[])))
theorem II(t:F)(k:Int)(q:Int×F)(h:q.2.length<=t.length):(jG t k q).2.length<=t.length:=by
 unfold jG;split
 ·rename_i r hr;exact QJ hr
 ·exact h
theorem SN(t:F):(fS t).2.length<=t.length:=II t 3 _ (II t 2 _ (II t 1 _ (Nat.zero_le _)))
theorem R0(s:F)(hs:s.length<=2000000):∃(a t:F) (ok:Bool),f198 ((s,()),())=some (((),(ok,())),((a,((fS t).1,((fS t).2,()))),()))/\s=a++t/\(∀y,y∈a->fh.contains y=false)/\(t=[]\/∃x r,t=x::r/\fh.contains x=true):=by
 obtain⟨a,t,g1,h1,h2,h3⟩:=ajW s (by omega) s [] rfl (fun y hy=>by cases hy)
 have g1:BD ((s,((),(false,((0:Int),())))),((([]:F),((0:Int),(([]:F),()))),()))=_:=g1;have hl:s.length=a.length+t.length:=by rw[h1];simp
 have e1:bE s 0 ((a.length:Nat):Int)=some a:=by rw[iK (by omega),h1];simp
 have e2:bE s ((a.length:Nat):Int) ((s.length:Nat):Int)=some t:=by rw[hI (by omega),h1];simp
 have s1:=IH s t a [] 1 0 (by decide) (by decide)
 have s2:=IH s t a (jG t 1 (0,[])).2 2 (jG t 1 (0,[])).1 (by decide) (by decide)
 have im:=IH s t a (jG t 2 (jG t 1 (0,[]))).2 3 (jG t 2 (jG t 1 (0,[]))).1 (by decide) (by decide)
 have aax:wA ((s,((),(false,((),(t,((3:Int)+1,())))))),((([]:F),((0:Int),(([]:F),()))),((a,((fS t).1,((fS t).2,()))),())))=some (.inr ((s,((),(false,((),())))),((([]:F),((0:Int),(([]:F),()))),((a,((fS t).1,((fS t).2,()))),())))):=by
  have d:decide ((3:Int)+1<=3)=false:=by decide
  simp only[wA,d,cond_false]
 have g2:Hm ((s,((),(false,((),(t,((1:Int),())))))),((([]:F),((0:Int),(([]:F),()))),((a,((0:Int),(([]:F),()))),())))=some ((s,((),(false,((),())))),((([]:F),((0:Int),(([]:F),()))),((a,((fS t).1,((fS t).2,()))),()))):=
  (dL s1).trans ((dL s2).trans ((dL im).trans (cx aax)))
 have hv:=SN t;have bp:=Q0 (((a,((fS t).1,((fS t).2,()))),()),()) (by show a.length<=2097152;omega) (by show(fS t).2.length<=2097152;omega)
 have dW:=RZ ⟨a,(fS t).1,(fS t).2⟩ ⟨by show a.length<=2097152;omega,by show(fS t).2.length<=2097152;omega⟩
 refine⟨a,t,dB ⟨a,(fS t).1,(fS t).2⟩&&cS ⟨a,(fS t).1,(fS t).2⟩==s,?_,h1,h2,h3⟩;simp only[f198,g1,Option.bind_some,e1,e2,g2,bp];cases dB ⟨a,(fS t).1,(fS t).2⟩ with
 |false=>rfl
 |true=>
  simp only[cond_true,dW,Option.bind_some];rfl
theorem acB(s:F)(hs:s.length<=2000000):∃(n:bH) (ok:Bool),f198 ((s,()),())=some (((),(ok,())),((n.name,(n.kind,(n.aW,()))),()))/\n.name.length<=s.length/\n.aW.length<=s.length:=by
 obtain⟨a,t,ok,h,h1,_⟩:=R0 s hs;have hv:=SN t;have hl:s.length=a.length+t.length:=by rw[h1];simp
 exact⟨⟨a,(fS t).1,(fS t).2⟩,ok,h,by show a.length<=_;omega,by show(fS t).2.length<=_;omega⟩
theorem acA{n:bH}(h:dB n=true)(hs:(cS n).length<=2000000):∃ok:Bool,f198 ((cS n,()),())=some (((),(ok,())),((n.name,(n.kind,(n.aW,()))),())):=by
 obtain⟨a,t,ok,e,h1,h2,h3⟩:=R0 (cS n) hs;obtain⟨aw,an⟩:=zv h;have hno:=Rj (Fi aw);obtain⟨bN,k,v⟩:=n;have key:∀be:F,cS ⟨bN,k,v⟩=bN++be->(be=[]\/∃x r,be=x::r/\fh.contains x=true)->fS be=(k,v)->∃ok:Bool,f198 ((cS ⟨bN,k,v⟩,()),())=some (((),(ok,())),((bN,(k,(v,()))),())):=by
  intro be q1 q2 dq;obtain⟨e1,e2⟩:=aff (h1.symm.trans q1) h2 hno h3 q2;subst e1 e2;rw[dq] at e;exact⟨ok,e⟩
 rcases an with⟨hk,hv⟩|⟨hk,hv⟩
 ·have hk:k=0:=hk;have hv:v=[]:=hv;subst hk hv;exact key [] (by unfold cS dN;simp) (.inl rfl) (by decide)
 ·rcases hk with hk|hk|hk
  ·have hk:k=1:=hk;subst hk;refine key (61::v) (by unfold cS dN;simp) (.inr ⟨61,v,rfl,by decide⟩) ?_
   have d1:d' (dN 1) (61::v)=some v:=wh [61] v;have d2:d' (dN 2) (61::v)=none:=by unfold d';cases v<;>simp[dN]
   have d3:d' (dN 3) (61::v)=none:=by unfold d';simp[dN]
   simp only[fS,jG,d1,d2,d3]
  ·have hk:k=2:=hk;subst hk;refine key (62::61::v) (by unfold cS dN;simp) (.inr ⟨62,61::v,rfl,by decide⟩) ?_
   have d1:d' (dN 1) (62::61::v)=none:=by unfold d';simp[dN]
   have d2:d' (dN 2) (62::61::v)=some v:=wh [62,61] v;have d3:d' (dN 3) (62::61::v)=none:=by unfold d';simp[dN]
   simp only[fS,jG,d1,d2,d3]
  ·have hk:k=3:=hk;subst hk;refine key (60::v) (by unfold cS dN;simp) (.inr ⟨60,v,rfl,by decide⟩) ?_
   have d1:d' (dN 1) (60::v)=none:=by unfold d';simp[dN]
   have d2:d' (dN 2) (60::v)=none:=by unfold d';cases v<;>simp[dN]
   have d3:d' (dN 3) (60::v)=some v:=wh [60] v;simp only[fS,jG,d1,d2,d3]
noncomputable abbrev aqH:bl:=[(89,vz),(90,EL),(91,pN)]
theorem x9:bc Z (bi ak aqH):=bj ⟨yc,LW,z91,⟨⟩⟩
abbrev Rr:Shape:=⟨[a8 2 2 0,aq 3,aC 4,a' 5 3000320,a' 6 3000384],[a7 2 [ax,bz,bz,ax],bg 3000320 .str 5 0,bg 3000384 .str 6 0],110⟩
abbrev Ra:List aR:=[(.norm,⟨[a8 2 2 0,aq 3,aC 4,a' 5 3000320,a' 6 3000384,aC 18],[a7 2 [ax,bz,bz,ax],bg 3000320 .str 5 0,bg 3000384 .str 6 0],110⟩)]
noncomputable def nS(y:Rr.J):Option (aF Ra):=
(aU y.2.2.2.1.length (0:Int)).bind fun a=>
(y.2.2.2.1[a]?).bind fun b=>
 bif(b==([100,105,114]:F)) then
 some (((),y.1.2.1,y.1.2.2.1,(),(),((y.2.2.2.1.length:Int)==(3:Int)),()),(y.2.1.1,y.2.1.2.1,y.2.1.2.2.1,y.2.1.2.2.2.1,()),y.2.2.1,y.2.2.2.1,())
else
 some (((),y.1.2.1,y.1.2.2.1,(),(),false,()),(y.2.1.1,y.2.1.2.1,y.2.1.2.2.1,y.2.1.2.2.2.1,()),y.2.2.1,y.2.2.2.1,())
theorem ahu:aX Z (ap (codeOf Tryz.f199) 1 248) (bb Rr Ra nS):=c8 x9 (by kernel_rfl) aj fun y=>by kernel_rfl
abbrev Rq:Shape:=⟨[a8 2 2 0,aq 3,aC 4,a' 5 3000320,a' 6 3000384],[a7 2 [ax,bz,bz,ax],bg 3000320 .str 5 0,bg 3000384 .str 6 0],110⟩
abbrev Q':List aR:=[(.norm,⟨[a8 2 2 0,aq 3,aC 4,a' 5 3000320,a' 6 3000384,aC 39],[a7 2 [ax,bz,bz,ax],bg 3000320 .str 5 0,bg 3000384 .str 6 0],110⟩)]
noncomputable def oV(y:Rq.J):Option (aF Q'):=
(aU y.2.2.2.1.length (0:Int)).bind fun a=>
(y.2.2.2.1[a]?).bind fun b=>
 bif(b==([108,105,110,107]:F)) then
 some (((),y.1.2.1,y.1.2.2.1,(),(),((y.2.2.2.1.length:Int)==(3:Int)),()),(y.2.1.1,y.2.1.2.1,y.2.1.2.2.1,y.2.1.2.2.2.1,()),y.2.2.1,y.2.2.2.1,())
else
 some (((),y.1.2.1,y.1.2.2.1,(),(),false,()),(y.2.1.1,y.2.1.2.1,y.2.1.2.2.1,y.2.1.2.2.2.1,()),y.2.2.1,y.2.2.2.1,())
theorem aht:aX Z (ap (codeOf Tryz.f199) 1 998) (bb Rq Q' oV):=c8 x9 (by kernel_rfl) aj fun y=>by kernel_rfl
abbrev P8:Shape:=⟨[a8 2 2 0,aq 3,aC 4,a' 5 3000320,a' 6 3000384],[a7 2 [ax,bz,bz,ax],bg 3000320 .str 5 0,bg 3000384 .str 6 0],110⟩
abbrev PP:List aR:=[(.norm,⟨[a8 2 2 0,aq 3,aC 4,a' 5 3000320,a' 6 3000384,aC 59],[a7 2 [ax,bz,bz,ax],bg 3000320 .str 5 0,bg 3000384 .str 6 0],110⟩)]
noncomputable def p0(y:P8.J):Option (aF PP):=
(aU y.2.2.2.1.length (0:Int)).bind fun a=>
(y.2.2.2.1[a]?).bind fun b=>
 bif(b==([102,105,108,101]:F)) then
 some (((),y.1.2.1,y.1.2.2.1,(),(),((y.2.2.2.1.length:Int)==(4:Int)),()),(y.2.1.1,y.2.1.2.1,y.2.1.2.2.1,y.2.1.2.2.2.1,()),y.2.2.1,y.2.2.2.1,())
else
 some (((),y.1.2.1,y.1.2.2.1,(),(),false,()),(y.2.1.1,y.2.1.2.1,y.2.1.2.2.1,y.2.1.2.2.2.1,()),y.2.2.1,y.2.2.2.1,())
theorem afB:aX Z (ap (codeOf Tryz.f199) 1 3998) (bb P8 PP p0):=c8 x9 (by kernel_rfl) aj fun y=>by kernel_rfl
abbrev Pj:Shape:=⟨[a8 2 2 0,aq 3,aC 4,a' 5 3000320,a' 6 3000384,ad 7],[a7 2 [ax,bz,bz,ax],bg 3000320 .str 5 0,bg 3000384 .str 6 0],110⟩
abbrev O':List aR:=[(.norm,⟨[a8 2 2 0,aq 3,aC 4,a' 5 3000320,a' 6 3000384,ad 7,aC 88],[a7 2 [ax,bz,bz,ax],bg 3000320 .str 5 0,bg 3000384 .str 6 0],110⟩)]
noncomputable def vX(y:Pj.J):Option (aF O'):=
(aU y.2.2.1.length (1:Int)).bind fun a=>
(y.2.2.1[a]?).bind fun b=>
(f91 ((y.1.2.2.2.2.2.1,(0:Int),(IntKind.i64.wrap ((b.length:Int)-(1:Int))),()),())).bind fun c=>
 bif(!(!c.1.1)) then
(aU y.2.2.1.length (1:Int)).bind fun d=>
(y.2.2.1[d]?).bind fun e=>
(aQ e y.1.2.2.2.2.2.1).bind fun f=>
 some (((),y.1.2.1,y.1.2.2.1,(),(),y.1.2.2.2.2.2.1,((f.toNat:Int) !=(10:Int)),()),(y.2.1.1,y.2.1.2.1,y.2.1.2.2.1,y.2.1.2.2.2.1,()),y.2.2.1,y.2.2.2.1,())
else
 some (((),y.1.2.1,y.1.2.2.1,(),(),y.1.2.2.2.2.2.1,true,()),(y.2.1.1,y.2.1.2.1,y.2.1.2.2.1,y.2.1.2.2.2.1,()),y.2.2.1,y.2.2.2.1,())
theorem adX:aX Z (ap (codeOf Tryz.f199) 1 63988) (bb Pj O' vX):=c8 x9 (by kernel_rfl) aj fun y=>by kernel_rfl
abbrev i199:Shape:=⟨[aq 0],[],110⟩
abbrev xL:Shape:=⟨[a8 2 2 0,aq 3,aC 4],[a7 2 [ax,bz,bz,ax]],110⟩
noncomputable def f199(a:i199.J):Option xL.J:=
(f89 ((a.1.1,(10:Int),(1:Int),()),())).bind fun b=>
 bif(decide ((b.2.1.length:Int)<(2:Int))) then
 some (((),([]:F),false,()),(([]:F),(0:Int),(0:Int),([]:F),()),())
else
(aU b.2.1.length (0:Int)).bind fun c=>
(b.2.1[c]?).bind fun d=>
(f89 ((d,(32:Int),(4:Int),()),())).bind fun e=>
(nS (((),([]:F),false,(),(),()),(([]:F),(0:Int),(0:Int),([]:F),()),b.2.1,e.2.1,())).bind fun f=>
 bif f.1.2.2.2.2.2.1 then
(aU f.2.2.2.1.length (2:Int)).bind fun g=>
(f.2.2.2.1[g]?).bind fun h=>
(aU f.2.2.2.1.length (1:Int)).bind fun i=>
(f.2.2.2.1[i]?).bind fun j=>
(f90 ((j,()),())).bind fun k=>
(aU f.2.2.1.length (1:Int)).bind fun l=>
(f.2.2.1[l]?).bind fun m=>
 some (((),m,true,()),(h,(1:Int),k.1.1,([]:F),()),())
else
(oV (((),f.1.2.1,f.1.2.2.1,(),(),()),(f.2.1.1,f.2.1.2.1,f.2.1.2.2.1,f.2.1.2.2.2.1,()),f.2.2.1,f.2.2.2.1,())).bind fun n=>
 bif n.1.2.2.2.2.2.1 then
(aU n.2.2.2.1.length (1:Int)).bind fun D=>
(n.2.2.2.1[D]?).bind fun p=>
(aU n.2.2.2.1.length (2:Int)).bind fun q=>
(n.2.2.2.1[q]?).bind fun r=>
(aU n.2.2.1.length (1:Int)).bind fun s=>
(n.2.2.1[s]?).bind fun t=>
 some (((),t,true,()),(p,(3:Int),(0:Int),r,()),())
else
(p0 (((),n.1.2.1,n.1.2.2.1,(),(),()),(n.2.1.1,n.2.1.2.1,n.2.1.2.2.1,n.2.1.2.2.2.1,()),n.2.2.1,n.2.2.2.1,())).bind fun u=>
 bif u.1.2.2.2.2.2.1 then
(aU u.2.2.2.1.length (3:Int)).bind fun v=>
(u.2.2.2.1[v]?).bind fun w=>
(f90 ((w,()),())).bind fun x=>
(vX (((),u.1.2.1,u.1.2.2.1,(),(),x.1.1,()),(u.2.1.1,u.2.1.2.1,u.2.1.2.2.1,u.2.1.2.2.2.1,()),u.2.2.1,u.2.2.2.1,())).bind fun y=>
 bif y.1.2.2.2.2.2.2.1 then
 some (((),([]:F),false,()),(([]:F),(0:Int),(0:Int),([]:F),()),())
else
(aU y.2.2.2.1.length (2:Int)).bind fun z=>
(y.2.2.2.1[z]?).bind fun A=>
(aU y.2.2.2.1.length (1:Int)).bind fun bx=>
(y.2.2.2.1[bx]?).bind fun C=>
(f90 ((C,()),())).bind fun aJ=>
(aU y.2.2.1.length (1:Int)).bind fun E=>
(y.2.2.1[E]?).bind fun aP=>
(bE aP (0:Int) y.1.2.2.2.2.2.1).bind fun G=>
(aU y.2.2.1.length (1:Int)).bind fun H=>
(y.2.2.1[H]?).bind fun I=>
(bE I (IntKind.i64.wrap (y.1.2.2.2.2.2.1+(1:Int))) (I.length:Int)).bind fun fy=>
 some (((),fy,true,()),(A,(2:Int),aJ.1.1,G,()),())
else
 some (((),([]:F),false,()),(([]:F),(0:Int),(0:Int),([]:F),()),())
noncomputable def Yj:aK:=a6 ak Tryz.f199 i199 xL [] f199
theorem an6:aL Z 199 Yj:=ba x9 Tryz.func199 (by kernel_rfl) (bd ahu (bd aht (bd afB (bd adX aj)))) (fun y=>by kernel_rfl) fun a=>by kernel_rfl
def hM(s:F):Int:=bif s.all cU&&decide (s.length<=6)&&!(s==[])&&!iO s then df s else-1
theorem rl(s:F)(hs:am s.length):f90 ((s,()),())=some ((hM s,()),()):=HV ((s,()),()) hs
theorem Ga(n:Nat)(h:n<1000000):hM (Lib.itoa (n:Int))=(n:Int):=by
 have h1:=rl (Lib.itoa (n:Int)) (by rw[rr];have:=HO 5 n (by omega);unfold am;omega)
 rw[aee n h] at h1;simp only[Option.some.injEq,Prod.mk.injEq] at h1;exact h1.1.1.symm
def sp(aO w2 cr r:F):Option (aG×F):=bif within (hM cr) 0 ((r.length:Int)-1) then(match r.drop (hM cr).toNat with|10::eF=>some (⟨w2,2,hM aO,r.take (hM cr).toNat⟩,eF)|_=>none) else none
def gL(ws:List F)(r:F):Option (aG×F):=match ws with
 |[O,aO,w2]=>bif O==iA then some (⟨w2,1,hM aO,[]⟩,r) else bif O==iy then some (⟨aO,3,0,w2⟩,r) else none
 |[O,aO,w2,cr]=>bif O==iP then sp aO w2 cr r else none
 |_=>none
def ou(s:F):Option (aG×F):=match dv 10 s with
 |some (bV,r)=>gL (splitN 32 4 bV) r
 |none=>none
abbrev vK(D:Bool)(e:aG)(r:F):xL.J:=(((),(r,(D,()))),((e.path,(e.kind,(e.mode,(e.text,())))),()))
theorem va{n:Nat}(h:0<n):aU n (0:Int)=some 0:=gg h
theorem Mf{n:Nat}(h:1<n):aU n (1:Int)=some 1:=gg h
theorem Z1{n:Nat}(h:2<n):aU n (2:Int)=some 2:=gg h
theorem Z0{n:Nat}(h:3<n):aU n (3:Int)=some 3:=gg h
theorem QW(s:F)(hs:s.length<=2000000):∃(r:F) (e:aG),f199 ((s,()),())=some (vK (ou s).isSome e r)/\∀q,ou s=some q->q=(e,r):=by
 have c1:=mL 10 s (by omega) 1
 have c1:f89 ((s,((10:Int),((1:Int),()))),())=_:=c1;have zero:∀{D:Option (aG×F)} {x:Option xL.J},D=none->x=some (vK false ⟨[],0,0,[]⟩ [])->∃(r:F) (e:aG),x=some (vK D.isSome e r)/\∀q,D=some q->q=(e,r):=by
  intro D x ay hx;subst ay;exact⟨[],⟨[],0,0,[]⟩,hx,fun q al=>by cases al⟩
 have one:∀{D:Option (aG×F)} {x:Option xL.J} {e:aG} {r:F},D=some (e,r)->x=some (vK true e r)->∃(r:F) (e:aG),x=some (vK D.isSome e r)/\∀q,D=some q->q=(e,r):=by
  intro D x e r ay hx;subst ay;exact⟨r,e,hx,fun q al=>by cases al;rfl⟩
 cases al:dv 10 s with
 |none=>
  have eg:splitN 10 1 s=[s]:=by unfold splitN;rw[al]
  rw[eg] at c1;refine zero (by unfold ou;rw[al]) ?_
  have d:decide ((([s]:List F).length:Int)<2)=true:=rfl;simp only[f199,c1,Option.bind_some,d,cond_true]
 |some q=>
  obtain⟨bV,rest⟩:=q;have hl:=(jN al).1;have hl:s.length=bV.length+1+rest.length:=by rw[hl];simp;omega
  have eg:splitN 10 1 s=[bV,rest]:=by unfold splitN;rw[al];rfl
  rw[eg] at c1;have c2:=mL 32 bV (by omega) 4
  have c2:f89 ((bV,((32:Int),((4:Int),()))),())=_:=c2;have hr:ou s=gL (splitN 32 4 bV) rest:=by unfold ou;rw[al]
  have hm:=rc 32 4 bV;have hp:=Pc 32 4 bV;rw[hr];generalize splitN 32 4 bV=ws at c2 hm hp;have d:decide ((([bV,rest]:List F).length:Int)<2)=false:=rfl;have i0:aU ([bV,rest]:List F).length (0:Int)=some 0:=rfl;have i1:aU ([bV,rest]:List F).length (1:Int)=some 1:=rfl;have fF:([bV,rest]:List F)[0]? =some bV:=rfl;have eE:([bV,rest]:List F)[1]? =some rest:=rfl;have xY:∀w:F,(w==([100,105,114]:F))=(w==iA):=fun _=>rfl
  have De:∀w:F,(w==([108,105,110,107]:F))=(w==iy):=fun _=>rfl
  have uz:∀w:F,(w==([102,105,108,101]:F))=(w==iP):=fun _=>rfl
  have other:∀(O:F) (more:List F),ws=O::more->((ws.length:Int)==3)=false->((ws.length:Int)==4)=false->gL ws rest=none->∃(r:F) (e:aG),f199 ((s,()),())=some (vK (gL ws rest).isSome e r)/\∀q,gL ws rest=some q->q=(e,r):=by
   intro O more hw h3 aD h;refine zero h ?_
   have io:aU ws.length (0:Int)=some 0:=va (by omega)
   have dE:ws[0]? =some O:=by rw[hw];rfl
   simp only[f199,c1,Option.bind_some,d,cond_false,i0,fF,c2,nS,io,dE,h3];cases O==([100,105,114]:F)<;>simp only[cond_true,cond_false,Option.bind_some,oV,io,dE,h3]<;>cases O==([108,105,110,107]:F)<;>simp only[cond_true,cond_false,Option.bind_some,p0,io,dE,aD]<;>cases O==([102,105,108,101]:F)<;>rfl
  match ws,other,c2,hm,hp with
  |[],other,c2,hm,hp=>exact absurd hp (by decide)
  |[O],other,c2,hm,hp=>exact other O [] rfl rfl rfl rfl
  |[O,aO],other,c2,hm,hp=>exact other O [aO] rfl rfl rfl rfl
  |O::aO::w2::cr::pO::more,other,c2,hm,hp=>exact other O _ rfl (by rw[beq_eq_false_iff_ne];simp;omega) (by rw[beq_eq_false_iff_ne];simp;omega) rfl
  |[O,aO,w2],_,c2,hm,hp=>
   have io:aU ([O,aO,w2]:List F).length (0:Int)=some 0:=rfl;have mH:aU ([O,aO,w2]:List F).length (1:Int)=some 1:=rfl;have q6:aU ([O,aO,w2]:List F).length (2:Int)=some 2:=rfl;have dE:([O,aO,w2]:List F)[0]? =some O:=rfl;have eW:([O,aO,w2]:List F)[1]? =some aO:=rfl;have ea:([O,aO,w2]:List F)[2]? =some w2:=rfl;have h3:((([O,aO,w2]:List F).length:Int)==3)=true:=rfl;have aD:((([O,aO,w2]:List F).length:Int)==4)=false:=rfl;have m1:=hm aO (by simp)
   have n1:=rl aO (by unfold am;omega)
   cases fg:O==iA with
   |true=>
    refine one (show gL [O,aO,w2] rest=some (⟨w2,1,hM aO,[]⟩,rest) by unfold gL;simp only[fg,cond_true]) ?_
    simp only[f199,c1,Option.bind_some,d,cond_false,i0,fF,c2,nS,io,dE,h3,xY,fg,cond_true,q6,ea,mH,eW,n1,i1,eE]
   |false=>
    cases e1:O==iy with
    |true=>
     refine one (show gL [O,aO,w2] rest=some (⟨aO,3,0,w2⟩,rest) by unfold gL;simp only[fg,e1,cond_true,cond_false]) ?_
     simp only[f199,c1,Option.bind_some,d,cond_false,i0,fF,c2,nS,io,dE,h3,xY,fg,cond_true,q6,ea,mH,eW,i1,eE,oV,De,e1]
    |false=>
     refine zero (show gL [O,aO,w2] rest=none by unfold gL;simp only[fg,e1,cond_false]) ?_
     simp only[f199,c1,Option.bind_some,d,cond_false,i0,fF,c2,nS,io,dE,h3,aD,xY,fg,oV,De,e1,p0];cases O==([102,105,108,101]:F)<;>rfl
  |[O,aO,w2,cr],_,c2,hm,hp=>
   have io:aU ([O,aO,w2,cr]:List F).length (0:Int)=some 0:=rfl;have mH:aU ([O,aO,w2,cr]:List F).length (1:Int)=some 1:=rfl;have q6:aU ([O,aO,w2,cr]:List F).length (2:Int)=some 2:=rfl;have Nz:aU ([O,aO,w2,cr]:List F).length (3:Int)=some 3:=rfl;have dE:([O,aO,w2,cr]:List F)[0]? =some O:=rfl;have eW:([O,aO,w2,cr]:List F)[1]? =some aO:=rfl;have ea:([O,aO,w2,cr]:List F)[2]? =some w2:=rfl;have nK:([O,aO,w2,cr]:List F)[3]? =some cr:=rfl;have h3:((([O,aO,w2,cr]:List F).length:Int)==3)=false:=rfl;have aD:((([O,aO,w2,cr]:List F).length:Int)==4)=true:=rfl;have m1:=hm aO (by simp)
   have m3:=hm cr (by simp)
   have n1:=rl aO (by unfold am;omega)
   have e4:=rl cr (by unfold am;omega)
   have b1:∀b:Bool,(bif b then some ((((),(([]:F),(false,((),((),(false,())))))),((([]:F),((0:Int),((0:Int),(([]:F),())))),([bV,rest],([O,aO,w2,cr],()))))) else some ((((),(([]:F),(false,((),((),(false,())))))),((([]:F),((0:Int),((0:Int),(([]:F),())))),([bV,rest],([O,aO,w2,cr],()))))))=some ((((),(([]:F),(false,((),((),(false,())))))),((([]:F),((0:Int),((0:Int),(([]:F),())))),([bV,rest],([O,aO,w2,cr],()))))):=fun b=>by cases b<;>rfl
   cases e2:O==iP with
   |false=>
    refine zero (show gL [O,aO,w2,cr] rest=none by unfold gL;simp only[e2,cond_false]) ?_
    simp only[f199,c1,Option.bind_some,d,cond_false,i0,fF,c2,nS,io,dE,h3,aD,b1,oV,p0,uz,e2]
   |true=>
    have hw:gL [O,aO,w2,cr] rest=sp aO w2 cr rest:=by unfold gL;simp only[e2,cond_true]
    rw[hw];have j2:IntKind.i64.wrap (((rest.length:Nat):Int)-1)=(rest.length:Int)-1:=c' (by omega) (by omega)
    have hin:=o6 ((hM cr,((0:Int),((rest.length:Int)-1,()))),());have hin:f91 ((hM cr,((0:Int),((rest.length:Int)-1,()))),())=some ((within (hM cr) 0 ((rest.length:Int)-1),()),()):=hin;cases hi:within (hM cr) 0 ((rest.length:Int)-1) with
    |false=>
     rw[hi] at hin;refine zero (by unfold sp;rw[hi];rfl) ?_
     simp only[f199,c1,Option.bind_some,d,cond_false,i0,fF,c2,nS,io,dE,h3,aD,b1,oV,p0,uz,e2,cond_true,Nz,nK,e4,vX,i1,eE,j2,hin,Bool.not_false,Bool.not_true]
    |true=>
     rw[hi] at hin;have hb:=ts hi;obtain⟨n,hn⟩:∃n:Nat,hM cr=(n:Int):=⟨(hM cr).toNat,by omega⟩
     rw[hn] at hin e4 hb;have hlt:n<rest.length:=by omega
     have dt:sp aO w2 cr rest=match rest.drop n with|10::eF=>some (⟨w2,2,hM aO,rest.take n⟩,eF)|_=>none:=by
      unfold sp;rw[hi,hn];rfl
     have xA:rest.drop n=rest[n]::rest.drop (n+1):=List.drop_eq_getElem_cons hlt;have hx:aQ rest ((n:Nat):Int)=some rest[n]:=by rw[cc];exact List.getElem?_eq_getElem hlt
     rw[xA] at dt;rw[dt];generalize rest[n]=b at hx;by_cases sI:b=10
     ·subst sI;have t1:((((10:UInt8).toNat:Nat):Int) !=10)=false:=rfl;have s1:bE rest 0 ((n:Nat):Int)=some (rest.take n):=iK (by omega)
      have asr:IntKind.i64.wrap (((n:Nat):Int)+1)=((n+1:Nat):Int):=b6 (by unfold am;omega)
      have s2:bE rest ((n+1:Nat):Int) ((rest.length:Nat):Int)=some (rest.drop (n+1)):=hI (by omega)
      refine one rfl ?_
      simp only[f199,c1,Option.bind_some,d,cond_false,i0,fF,c2,nS,io,dE,h3,aD,b1,oV,p0,uz,e2,cond_true,Nz,nK,e4,vX,i1,eE,j2,hin,Bool.not_false,Bool.not_true,hx,t1,q6,ea,mH,eW,n1,s1,asr,s2]
     ·have t1:(((b.toNat:Nat):Int) !=10)=true:=by
       rw[bne_iff_ne];intro h;exact sI (UInt8.toNat_inj.1 (by have:((10:UInt8).toNat:Int)=10:=rfl;omega))
      refine zero (by split<;>first|rfl|(rename_i h;simp at h;exact absurd h.1 sI)) ?_
      simp only[f199,c1,Option.bind_some,d,cond_false,i0,fF,c2,nS,io,dE,h3,aD,b1,oV,p0,uz,e2,cond_true,Nz,nK,e4,vX,i1,eE,j2,hin,Bool.not_false,Bool.not_true,hx,t1]
theorem Sx{s r:F}{e:aG}(h:ou s=some (e,r)):e.path.length<=s.length/\e.text.length<=s.length/\r.length<s.length:=by
 unfold ou at h;cases al:dv 10 s with
 |none=>rw[al] at h;cases h
 |some q=>
  obtain⟨bV,rest⟩:=q;rw[al] at h;have hl:=(jN al).1;have hl:s.length=bV.length+1+rest.length:=by rw[hl];simp;omega
  have hm:=rc 32 4 bV;have h:gL (splitN 32 4 bV) rest=some (e,r):=h;generalize splitN 32 4 bV=ws at h hm;unfold gL at h;split at h
  ·rename_i O aO w2;have m1:=hm aO (by simp)
   have m2:=hm w2 (by simp)
   cases fg:O==iA<;>simp only[fg,cond_true,cond_false] at h
   ·cases e1:O==iy<;>simp only[e1,cond_true,cond_false] at h
    ·cases h
    ·simp only[Option.some.injEq,Prod.mk.injEq] at h;obtain⟨rfl,rfl⟩:=h;exact⟨by show aO.length<=_;omega,by show w2.length<=_;omega,by omega⟩
   ·simp only[Option.some.injEq,Prod.mk.injEq] at h;obtain⟨rfl,rfl⟩:=h;exact⟨by show w2.length<=_;omega,by show 0<=_;omega,by omega⟩
  ·rename_i O aO w2 cr;have m2:=hm w2 (by simp)
   cases e2:O==iP<;>simp only[e2,cond_true,cond_false] at h
   ·cases h
   ·unfold sp at h;cases dW:within (hM cr) 0 ((rest.length:Int)-1)<;>simp only[dW,cond_true,cond_false] at h
    ·cases h
    ·split at h
     ·rename_i eF Y;simp only[Option.some.injEq,Prod.mk.injEq] at h;obtain⟨rfl,rfl⟩:=h;have MD:=congrArg List.length Y;simp only[List.length_drop,List.length_cons] at MD;exact⟨by show w2.length<=_;omega,by show(rest.take _).length<=_;simp;omega,by omega⟩
     ·cases h
  ·cases h
theorem aiR{e:aG}(h:fj e=true)(r:F):ou (ez e++r)=some (e,r):=by
 have hw:=(FQ h).1;unfold ou;rw[Qs h];show gL (splitN 32 4 (qu e)) (xt e r)=_;obtain⟨n,hn,jo⟩:=G8 h;have g2:=Ga n (by omega)
 have nx:splitN 32 4 (qu e)=mS e:=Of _ 4 (by unfold mS;cases e.kind==1<;>cases e.kind==3<;>simp) hw (by unfold mS;cases e.kind==1<;>cases e.kind==3<;>simp)
 rw[nx];obtain⟨p,k,m,t⟩:=e;have hn:m=n:=hn;subst hn;rcases v6 h with hk|hk|hk
 ·have hk:k=1:=hk;subst hk;have ao:t=[]:=QG h rfl;subst ao;show gL [iA,Lib.itoa (n:Int),p] r=_;unfold gL;have e2:(iA==iA)=true:=by decide
  simp only[e2,g2,cond_true]
 ·have hk:k=2:=hk;subst hk;have hb:t.length<=80:=by
   have:=Px h rfl;unfold o7 at this;simp only[Bool.and_eq_true,decide_eq_true_eq] at this;exact this.2
  have an:=Ga t.length (by omega)
  show gL [iP,Lib.itoa (n:Int),p,Lib.itoa (t.length:Int)] (t++10::r)=_;unfold gL;have bp:(iP==iP)=true:=by decide
  simp only[bp,cond_true];unfold sp;have d1:(t++10::r).drop t.length=10::r:=by simp
  have d2:(t++10::r).take t.length=t:=by simp
  have hw:within (t.length:Int) 0 (((t++10::r).length:Int)-1)=true:=by
   unfold within;rw[decide_eq_true (by omega),decide_eq_true (by simp;omega)]
   rfl
  simp only[an,hw,cond_true,Int.toNat_natCast,d1,d2,g2]
 ·have hk:k=3:=hk;subst hk;obtain⟨_,hm⟩:=FN h rfl;have hm:(n:Int)=0:=hm;show gL [iy,p,t] r=_;unfold gL;have e1:(iy==iA)=false:=by decide
  have e2:(iy==iy)=true:=by decide
  simp only[e1,e2,cond_true,cond_false];rw[hm]
noncomputable abbrev aq2:bl:=[(89,vz),(198,Yk)]
theorem x_:bc Z (bi ak aq2):=bj ⟨yc,z198,⟨⟩⟩
abbrev OH:Shape:=⟨[a8 2 2 0,a8 5 5 0,a' 6 3000384,aq 7,ad 8,a' 9 3000576],[bI 5000130 .need 2 2,bI 5000131 .entry 2 3,a7 2 [ax,ax,.own 5000130,.own 5000131],bI 5000322 .need 5 2,bI 5000323 .entry 5 3,a7 5 [ax,ax,.own 5000322,.own 5000323],bg 3000384 .str 6 0,bg 3000576 .str 9 0],118⟩
abbrev OC:List aR:=[(.norm,⟨[a8 2 2 0,a8 5 5 0,a' 6 3000384,aq 7,ad 8,a' 9 3000576,aC 52],[bI 5000130 .need 2 2,bI 5000131 .entry 2 3,a7 2 [ax,ax,.own 5000130,.own 5000131],bI 5000322 .need 5 2,bI 5000323 .entry 5 3,a7 5 [ax,ax,.own 5000322,.own 5000323],bg 3000384 .str 6 0,bg 3000576 .str 9 0],118⟩)]
noncomputable def l2(y:OH.J):Option (aF OC):=
 bif(y.1.2.2.2.2.1==(1:Int)) then
(aU y.2.2.2.2.2.2.2.2.1.length (0:Int)).bind fun a=>
(y.2.2.2.2.2.2.2.2.1[a]?).bind fun b=>
 bif(b==([112,97,99,107]:F)) then
 some (((),(),(),y.1.2.2.2.1,y.1.2.2.2.2.1,(),((y.2.2.2.2.2.2.2.2.1.length:Int)==(3:Int)),()),y.2.1,y.2.2.1,(y.2.2.2.1.1,y.2.2.2.1.2.1,(),(),()),y.2.2.2.2.1,y.2.2.2.2.2.1,(y.2.2.2.2.2.2.1.1,y.2.2.2.2.2.2.1.2.1,(),(),()),y.2.2.2.2.2.2.2.1,y.2.2.2.2.2.2.2.2.1,())
else
 some (((),(),(),y.1.2.2.2.1,y.1.2.2.2.2.1,(),false,()),y.2.1,y.2.2.1,(y.2.2.2.1.1,y.2.2.2.1.2.1,(),(),()),y.2.2.2.2.1,y.2.2.2.2.2.1,(y.2.2.2.2.2.2.1.1,y.2.2.2.2.2.2.1.2.1,(),(),()),y.2.2.2.2.2.2.2.1,y.2.2.2.2.2.2.2.2.1,())
else
 some (((),(),(),y.1.2.2.2.1,y.1.2.2.2.2.1,(),false,()),y.2.1,y.2.2.1,(y.2.2.2.1.1,y.2.2.2.1.2.1,(),(),()),y.2.2.2.2.1,y.2.2.2.2.2.1,(y.2.2.2.2.2.2.1.1,y.2.2.2.2.2.2.1.2.1,(),(),()),y.2.2.2.2.2.2.2.1,y.2.2.2.2.2.2.2.2.1,())
theorem acW:aX Z (ap (di (ap (codeOf Tryz.f146) 1 250)) 500 128156) (bb OH OC l2):=c8 x_ (by kernel_rfl) aj fun y=>by kernel_rfl
abbrev OG:Shape:=⟨[a8 2 2 0,a8 5 5 0,a' 6 3000384,aq 7,ad 8,a' 9 3000576],[bI 5000130 .need 2 2,bI 5000131 .entry 2 3,a7 2 [ax,ax,.own 5000130,.own 5000131],bI 5000322 .need 5 2,bI 5000323 .entry 5 3,a7 5 [ax,ax,.own 5000322,.own 5000323],bg 3000384 .str 6 0,bg 3000576 .str 9 0],118⟩
abbrev OB:List aR:=[(.norm,⟨[a8 2 2 0,a8 5 5 0,a' 6 3000384,aq 7,ad 8,a' 9 3000576,aC 74],[bI 5000130 .need 2 2,bI 5000131 .entry 2 3,a7 2 [ax,ax,.own 5000130,.own 5000131],bI 5000322 .need 5 2,bI 5000323 .entry 5 3,a7 5 [ax,ax,.own 5000322,.own 5000323],bg 3000384 .str 6 0,bg 3000576 .str 9 0],118⟩)]
noncomputable def mK(y:OG.J):Option (aF OB):=
 bif(decide (y.1.2.2.2.2.1>(1:Int))) then
(aU y.2.2.2.2.2.2.2.1.length y.1.2.2.2.2.1).bind fun a=>
(y.2.2.2.2.2.2.2.1[a]?).bind fun b=>
 some (((),(),(),y.1.2.2.2.1,y.1.2.2.2.2.1,(),(b==([]:F)),()),y.2.1,y.2.2.1,(y.2.2.2.1.1,y.2.2.2.1.2.1,(),(),()),y.2.2.2.2.1,y.2.2.2.2.2.1,(y.2.2.2.2.2.2.1.1,y.2.2.2.2.2.2.1.2.1,(),(),()),y.2.2.2.2.2.2.2.1,y.2.2.2.2.2.2.2.2.1,())
else
 some (((),(),(),y.1.2.2.2.1,y.1.2.2.2.2.1,(),false,()),y.2.1,y.2.2.1,(y.2.2.2.1.1,y.2.2.2.1.2.1,(),(),()),y.2.2.2.2.1,y.2.2.2.2.2.1,(y.2.2.2.2.2.2.1.1,y.2.2.2.2.2.2.1.2.1,(),(),()),y.2.2.2.2.2.2.2.1,y.2.2.2.2.2.2.2.2.1,())
theorem acV:aX Z (ap (di (ap (codeOf Tryz.f146) 1 250)) 500 512630) (bb OG OB mK):=c8 x_ (by kernel_rfl) aj fun y=>by kernel_rfl
abbrev Og:Shape:=⟨[a8 2 2 0,a8 5 5 0,a' 6 3000384,aq 7,ad 8,a' 9 3000576],[bI 5000130 .need 2 2,bI 5000131 .entry 2 3,a7 2 [ax,ax,.own 5000130,.own 5000131],bI 5000322 .need 5 2,bI 5000323 .entry 5 3,a7 5 [ax,ax,.own 5000322,.own 5000323],bg 3000384 .str 6 0,bg 3000576 .str 9 0],118⟩
abbrev Oe:List aR:=[(.norm,⟨[a8 2 2 0,a8 5 5 0,a' 6 3000384,aq 7,ad 8,a' 9 3000576,aC 86],[bI 5000130 .need 2 2,bI 5000131 .entry 2 3,a7 2 [ax,ax,.own 5000130,.own 5000131],bI 5000322 .need 5 2,bI 5000323 .entry 5 3,a7 5 [ax,ax,.own 5000322,.own 5000323],bg 3000384 .str 6 0,bg 3000576 .str 9 0],118⟩)]
noncomputable def oK(y:Og.J):Option (aF Oe):=
 bif(decide (y.1.2.2.2.2.1>(1:Int))) then
(aU y.2.2.2.2.2.2.2.2.1.length (0:Int)).bind fun a=>
(y.2.2.2.2.2.2.2.2.1[a]?).bind fun b=>
 bif(b==([110,101,101,100]:F)) then
 some (((),(),(),y.1.2.2.2.1,y.1.2.2.2.2.1,(),((y.2.2.2.2.2.2.2.2.1.length:Int)==(2:Int)),()),y.2.1,y.2.2.1,(y.2.2.2.1.1,y.2.2.2.1.2.1,(),(),()),y.2.2.2.2.1,y.2.2.2.2.2.1,(y.2.2.2.2.2.2.1.1,y.2.2.2.2.2.2.1.2.1,(),(),()),y.2.2.2.2.2.2.2.1,y.2.2.2.2.2.2.2.2.1,())
else
 some (((),(),(),y.1.2.2.2.1,y.1.2.2.2.2.1,(),false,()),y.2.1,y.2.2.1,(y.2.2.2.1.1,y.2.2.2.1.2.1,(),(),()),y.2.2.2.2.1,y.2.2.2.2.2.1,(y.2.2.2.2.2.2.1.1,y.2.2.2.2.2.2.1.2.1,(),(),()),y.2.2.2.2.2.2.2.1,y.2.2.2.2.2.2.2.2.1,())
else
 some (((),(),(),y.1.2.2.2.1,y.1.2.2.2.2.1,(),false,()),y.2.1,y.2.2.1,(y.2.2.2.1.1,y.2.2.2.1.2.1,(),(),()),y.2.2.2.2.1,y.2.2.2.2.2.1,(y.2.2.2.2.2.2.1.1,y.2.2.2.2.2.2.1.2.1,(),(),()),y.2.2.2.2.2.2.2.1,y.2.2.2.2.2.2.2.2.1,())
theorem acd:aX Z (ap (di (ap (codeOf Tryz.f146) 1 250)) 500 2050526) (bb Og Oe oK):=c8 x_ (by kernel_rfl) aj fun y=>by kernel_rfl
abbrev wo:Shape:=⟨[a8 2 2 0,a8 5 5 0,a' 6 3000384,aq 7,ad 8],[bI 5000130 .need 2 2,bI 5000131 .entry 2 3,a7 2 [ax,ax,.own 5000130,.own 5000131],bI 5000322 .need 5 2,bI 5000323 .entry 5 3,a7 5 [ax,ax,.own 5000322,.own 5000323],bg 3000384 .str 6 0],118⟩
abbrev As:List aR:=[(.ret,⟨[a8 2 2 0,aq 3,aC 4],[bI 5000130 .need 2 2,bI 5000131 .entry 2 3,a7 2 [ax,ax,.own 5000130,.own 5000131]],118⟩),(.exit 0,⟨[a8 2 2 0,a8 5 5 0],[bI 5000130 .need 2 2,bI 5000131 .entry 2 3,a7 2 [ax,ax,.own 5000130,.own 5000131],bI 5000322 .need 5 2,bI 5000323 .entry 5 3,a7 5 [ax,ax,.own 5000322,.own 5000323]],118⟩)]
noncomputable def is(y:wo.J):bR wo As:=
 bif(decide (y.1.2.2.2.2.1<(y.2.2.2.2.2.2.2.1.length:Int))) then
 bif(decide (y.1.2.2.2.2.1<=(8:Int))) then
(aU y.2.2.2.2.2.2.2.1.length y.1.2.2.2.2.1).bind fun a=>
(y.2.2.2.2.2.2.2.1[a]?).bind fun b=>
(f89 ((b,(32:Int),(2:Int),()),())).bind fun c=>
(aU y.2.2.2.2.2.2.2.1.length y.1.2.2.2.2.1).bind fun d=>
(y.2.2.2.2.2.2.2.1[d]?).bind fun e=>
 bif(decide ((y.1.2.2.2.1.length:Int)<(IntKind.i64.wrap ((e.length:Int)+(1:Int))))) then
 some (.inr (.inl (((),([]:F),false,()),y.2.2.2.2.1,y.2.2.2.2.2.1,(y.2.2.2.2.2.2.1.1,y.2.2.2.2.2.2.1.2.1,(),(),()),())))
else
(aU y.2.2.2.2.2.2.2.1.length y.1.2.2.2.2.1).bind fun f=>
(y.2.2.2.2.2.2.2.1[f]?).bind fun g=>
(bE y.1.2.2.2.1 (IntKind.i64.wrap ((g.length:Int)+(1:Int))) (y.1.2.2.2.1.length:Int)).bind fun h=>
(l2 (((),(),(),h,y.1.2.2.2.2.1,(),()),y.2.1,y.2.2.1,(y.2.2.2.1.1,y.2.2.2.1.2.1,(),(),()),y.2.2.2.2.1,y.2.2.2.2.2.1,(y.2.2.2.2.2.2.1.1,y.2.2.2.2.2.2.1.2.1,(),(),()),y.2.2.2.2.2.2.2.1,c.2.1,())).bind fun i=>
 bif i.1.2.2.2.2.2.2.1 then
(aU i.2.2.2.2.2.2.2.2.1.length (1:Int)).bind fun j=>
(i.2.2.2.2.2.2.2.2.1[j]?).bind fun k=>
(aU i.2.2.2.2.2.2.2.2.1.length (2:Int)).bind fun l=>
(i.2.2.2.2.2.2.2.2.1[l]?).bind fun m=>
 some (.inl (((),(),(),i.1.2.2.2.1,(IntKind.i64.wrap (i.1.2.2.2.2.1+(1:Int))),()),i.2.1,i.2.2.1,(i.2.2.2.1.1,i.2.2.2.1.2.1,(),(),()),i.2.2.2.2.1,i.2.2.2.2.2.1,(k,m,(),(),()),i.2.2.2.2.2.2.2.1,()))
else
(mK (((),(),(),i.1.2.2.2.1,i.1.2.2.2.2.1,(),()),i.2.1,i.2.2.1,(i.2.2.2.1.1,i.2.2.2.1.2.1,(),(),()),i.2.2.2.2.1,i.2.2.2.2.2.1,(i.2.2.2.2.2.2.1.1,i.2.2.2.2.2.2.1.2.1,(),(),()),i.2.2.2.2.2.2.2.1,i.2.2.2.2.2.2.2.2.1,())).bind fun n=>
 bif n.1.2.2.2.2.2.2.1 then
 some (.inr (.inl (((),n.1.2.2.2.1,true,()),n.2.2.2.2.1,n.2.2.2.2.2.1,(n.2.2.2.2.2.2.1.1,n.2.2.2.2.2.2.1.2.1,(),(),()),())))
else
(oK (((),(),(),n.1.2.2.2.1,n.1.2.2.2.2.1,(),()),n.2.1,n.2.2.1,(n.2.2.2.1.1,n.2.2.2.1.2.1,(),(),()),n.2.2.2.2.1,n.2.2.2.2.2.1,(n.2.2.2.2.2.2.1.1,n.2.2.2.2.2.2.1.2.1,(),(),()),n.2.2.2.2.2.2.2.1,n.2.2.2.2.2.2.2.2.1,())).bind fun D=>
 bif D.1.2.2.2.2.2.2.1 then
(aU D.2.2.2.2.2.2.2.2.1.length (1:Int)).bind fun p=>
(D.2.2.2.2.2.2.2.2.1[p]?).bind fun q=>
(f198 ((q,()),())).bind fun r=>
(cw 40 D.2.2.2.2.1 ([(bH.mk r.2.1.1 r.2.1.2.1 r.2.1.2.2.1)]:List bH)).bind fun s=>
 some (.inl (((),(),(),D.1.2.2.2.1,(IntKind.i64.wrap (D.1.2.2.2.2.1+(1:Int))),()),D.2.1,D.2.2.1,(D.2.2.2.1.1,D.2.2.2.1.2.1,(),(),()),s,D.2.2.2.2.2.1,(D.2.2.2.2.2.2.1.1,D.2.2.2.2.2.2.1.2.1,(),(),()),D.2.2.2.2.2.2.2.1,()))
else
 bif(decide (D.1.2.2.2.2.1>(0:Int))) then
 some (.inr (.inl (((),([]:F),false,()),D.2.2.2.2.1,D.2.2.2.2.2.1,(D.2.2.2.2.2.2.1.1,D.2.2.2.2.2.2.1.2.1,(),(),()),())))
else
 some (.inl (((),(),(),D.1.2.2.2.1,(IntKind.i64.wrap (D.1.2.2.2.2.1+(1:Int))),()),D.2.1,D.2.2.1,(D.2.2.2.1.1,D.2.2.2.1.2.1,(),(),()),D.2.2.2.2.1,D.2.2.2.2.2.1,(D.2.2.2.2.2.2.1.1,D.2.2.2.2.2.2.1.2.1,(),(),()),D.2.2.2.2.2.2.2.1,()))
else
 some (.inr (.inr (((),(),()),y.2.1,y.2.2.1,(y.2.2.2.1.1,y.2.2.2.1.2.1,(),(),()),y.2.2.2.2.1,y.2.2.2.2.2.1,(y.2.2.2.2.2.2.1.1,y.2.2.2.2.2.2.1.2.1,(),(),()),())))
else
 some (.inr (.inr (((),(),()),y.2.1,y.2.2.1,(y.2.2.2.1.1,y.2.2.2.1.2.1,(),(),()),y.2.2.2.2.1,y.2.2.2.2.2.1,(y.2.2.2.2.2.2.1.1,y.2.2.2.2.2.2.1.2.1,(),(),()),())))
noncomputable def l7:wo.J->Option (aF As):=br is
theorem ahD:aX Z (ap (codeOf Tryz.f146) 1 250) (bb wo As l7):=bW x_ (by kernel_rfl) (bd acW (bd acV (bd acd aj))) fun y=>by kernel_rfl
abbrev i146:Shape:=⟨[aq 0],[],118⟩
abbrev KR:Shape:=⟨[a8 2 2 0,aq 3,aC 4],[bI 5000130 .need 2 2,bI 5000131 .entry 2 3,a7 2 [ax,ax,.own 5000130,.own 5000131]],118⟩
noncomputable def f146(a:i146.J):Option KR.J:=
(f89 ((a.1.1,(10:Int),(IntKind.i64.wrap ((a.1.1.length:Int)+(1:Int))),()),())).bind fun b=>
(l7 (((),(),(),a.1.1,(0:Int),()),([]:List bH),([]:List aG),(([]:F),([]:F),(),(),()),([]:List bH),([]:List aG),(([]:F),([]:F),(),(),()),b.2.1,())).bind fun c=>
(match c with
|.inl d=>
 some (((),d.1.2.1,d.1.2.2.1,()),d.2.1,d.2.2.1,(d.2.2.2.1.1,d.2.2.2.1.2.1,(),(),()),())
|.inr e=>
 some (((),([]:F),false,()),e.2.2.2.2.1,e.2.2.2.2.2.1,(e.2.2.2.2.2.2.1.1,e.2.2.2.2.2.2.1.2.1,(),(),()),()))
noncomputable def YB:aK:=a6 ak Tryz.f146 i146 KR [] f146
theorem z146:aL Z 146 YB:=ba x_ Tryz.func146 (by kernel_rfl) (bd ahD aj) (fun y=>by kernel_rfl) fun a=>by kernel_rfl
noncomputable abbrev aq1:bl:=[(158,DS),(199,Yj),(200,Lz)]
theorem Y6:bc Z (bi ak aq1):=bj ⟨Ky,an6,Vq,⟨⟩⟩
abbrev Bs:Shape:=⟨[aq 0,a' 4 3000256,aq 5],[bg 3000256 .entry 4 0],41⟩
abbrev Ip:List aR:=[(.ret,⟨[a' 2 3000128,aC 3],[bg 3000128 .entry 2 0],41⟩),(.exit 0,⟨[aq 0,a' 4 3000256],[bg 3000256 .entry 4 0],41⟩)]
noncomputable def rJ(y:Bs.J):bR Bs Ip:=
 bif(!(y.1.2.2.1==([]:F))) then
 bif(decide ((y.2.1.length:Int)<=(16:Int))) then
(f199 ((y.1.2.2.1,()),())).bind fun a=>
 bif(!a.1.2.2.1) then
 some (.inr (.inl (((),false,()),y.2.1,())))
else
(cw 48 y.2.1 ([(aG.mk a.2.1.1 a.2.1.2.1 a.2.1.2.2.1 a.2.1.2.2.2.1)]:List aG)).bind fun b=>
 some (.inl ((y.1.1,(),a.1.2.1,()),b,()))
else
 some (.inr (.inr ((y.1.1,(),()),y.2.1,())))
else
 some (.inr (.inr ((y.1.1,(),()),y.2.1,())))
noncomputable def wR:Bs.J->Option (aF Ip):=br rJ
theorem ajw:aX Z (ap (codeOf Tryz.f147) 1 60) (bb Bs Ip wR):=bW Y6 (by kernel_rfl) aj fun y=>by kernel_rfl
abbrev i147:Shape:=⟨[aq 0],[],41⟩
abbrev WM:Shape:=⟨[a' 2 3000128,aC 3],[bg 3000128 .entry 2 0],41⟩
noncomputable def f147(a:i147.J):Option WM.J:=
(wR ((a.1.1,(),a.1.1,()),([]:List aG),())).bind fun b=>
(match b with
|.inl c=>
 some (((),c.1.2.1,()),c.2.1,())
|.inr d=>
(f158 ((d.2.1,()),())).bind fun e=>
 bif e.1.1 then
(f200 ((d.2.1,()),())).bind fun f=>
 some (((),(f.1.1==d.1.1),()),d.2.1,())
else
 some (((),false,()),d.2.1,()))
noncomputable def YA:aK:=a6 ak Tryz.f147 i147 WM [] f147
theorem aof:aL Z 147 YA:=ba Y6 Tryz.func147 (by kernel_rfl) (bd ajw aj) (fun y=>by kernel_rfl) fun a=>by kernel_rfl
theorem alv(s:F):∀(m:Nat) (r:F) (t:List aG),r.length<=m->m<=2000000->t.length<=17->qL 2000000 t->
  ∃ns:List aG,ns.length<=17/\qL 2000000 ns/\(wR ((s,((),(r,()))),(t,()))=some (.inr ((s,((),())),(ns,())))\/wR ((s,((),(r,()))),(t,()))=some (.inl (((),(false,())),(ns,())))):=by
 intro m;induction m with
 |zero=>
  intro r t hs _ ao ha;have:r=[]:=List.length_eq_zero_iff.1 (by omega)
  subst this;exact⟨t,ao,ha,.inl (cx rfl)⟩
 |succ m ih=>
  intro r t hs hm ao ha;cases r with
  |nil=>exact⟨t,ao,ha,.inl (cx rfl)⟩
  |cons b r0=>
   have hne:((b::r0)==([]:F))=false:=rfl;generalize ef:b::r0=r at hs hne;by_cases yT:t.length<=16
   ·have d:decide (((t.length:Nat):Int)<=16)=true:=decide_eq_true (by omega)
    obtain⟨eF,e,h1,h2⟩:=QW r (by omega)
    cases hr:ou r with
    |none=>
     rw[hr] at h1;refine⟨t,ao,ha,.inr (cx ?_)⟩;simp only[rJ,hne,Bool.not_false,cond_true,d,h1,Option.bind_some,Option.isSome_none]
    |some q=>
     have al:=h2 q hr;subst al;rw[hr] at h1;obtain⟨c9,fU,y6⟩:=Sx hr;have fw:cw 48 t ([(aG.mk e.path e.kind e.mode e.text)]:List aG)=some (t++[e]):=ey (by decide) (by unfold am;simp;omega)
     have st:rJ ((s,((),(r,()))),(t,()))=some (.inl ((s,((),(eF,()))),(t++[e],()))):=by
      simp only[rJ,hne,Bool.not_false,cond_true,d,h1,Option.bind_some,Option.isSome_some,Bool.not_true,cond_false,fw]
     obtain⟨ns,g1,g2,g3⟩:=ih eF (t++[e]) (by omega) (by omega) (by simp;omega) (fun x hx=>by
      rcases List.mem_append.1 hx with hx|hx
      ·exact ha x hx
      ·rw[List.mem_singleton.1 hx];exact⟨by omega,by omega⟩)
     exact⟨ns,g1,g2,g3.imp (dL st).trans (dL st).trans⟩
   ·have d:decide (((t.length:Nat):Int)<=16)=false:=decide_eq_false (by omega)
    refine⟨t,ao,ha,.inl (cx ?_)⟩;simp only[rJ,hne,Bool.not_false,cond_true,d,cond_false]
theorem alu(s:F):∀(b5 t:List aG),(∀e,e∈b5->fj e=true)->t.length+b5.length<=16->(dm b5).length<=2000000->
  wR ((s,((),(dm b5,()))),(t,()))=some (.inr ((s,((),())),(t++b5,()))):=by
 intro b5;induction b5 with
 |nil=>intro t _ _ _;rw[List.append_nil];exact cx rfl
 |cons e b5 ih=>
  intro t h ao hl;have he:=h e List.mem_cons_self;have hr:=aiR he (dm b5);have hE:dm (e::b5)=ez e++dm b5:=by unfold dm;rw[List.flatMap_cons]
  rw[hE] at hl ⊢;have hlen:=(Sx hr).2.2;have hne:((ez e++dm b5)==([]:F))=false:=by
   cases hx:ez e++dm b5 with
   |nil=>rw[hx] at hlen;simp at hlen
   |cons b r=>rfl
  obtain⟨r,b_,h1,h2⟩:=QW (ez e++dm b5) hl;have al:=h2 _ hr;simp only[Prod.mk.injEq] at al;obtain⟨rfl,rfl⟩:=al;rw[hr] at h1;have d:decide (((t.length:Nat):Int)<=16)=true:=decide_eq_true (by omega)
  have fw:cw 48 t ([(aG.mk e.path e.kind e.mode e.text)]:List aG)=some (t++[e]):=ey (by decide) (by unfold am;simp;simp at ao;omega)
  have st:rJ ((s,((),(ez e++dm b5,()))),(t,()))=some (.inl ((s,((),(dm b5,()))),(t++[e],()))):=by
   simp only[rJ,hne,Bool.not_false,cond_true,d,h1,Option.bind_some,Option.isSome_some,Bool.not_true,cond_false,fw]
  have:=ih (t++[e]) (fun x hx=>h x (List.mem_cons_of_mem _ hx)) (by simp at ao ⊢;omega) (by omega)
  rw[List.append_assoc] at this;exact(dL st).trans this
theorem S9{t:List aG}(hl:t.length<=17)(h:qL 2000000 t):jl t:=⟨by show t.length<=2097152;omega,fun e he=>by have:=h e he;exact⟨by show e.path.length<=2097152;omega,by show e.text.length<=2097152;omega⟩⟩
theorem abb(s:F)(hs:s.length<=2000000):∃(ok:Bool) (t:List aG),f147 ((s,()),())=some (((),(ok,())),(t,()))/\t.length<=17/\qL 2000000 t:=by
 obtain⟨ns,g1,g2,g3⟩:=alv s s.length s [] (Nat.le_refl _) hs (by decide) (fun x hx=>by cases hx)
 rcases g3 with g3|g3
 ·have hb:=S9 g1 g2;have ao:=Ar ((ns,()),()) hb;have ao:f158 ((ns,()),())=some ((d_ ns,()),()):=ao;cases hk:d_ ns with
  |false=>
   rw[hk] at ao;exact⟨false,ns,by simp only[f147,g3,Option.bind_some,ao,cond_false],g1,g2⟩
  |true=>
   rw[hk] at ao;have hl:=FS ns (tl hk) hb (j_ hk);exact⟨_,ns,by simp only[f147,g3,Option.bind_some,ao,cond_true,hl];rfl,g1,g2⟩
 ·exact⟨false,ns,by simp only[f147,g3,Option.bind_some],g1,g2⟩
theorem aba(t:List aG)(h:d_ t=true)(hs:(dm t).length<=2000000)(hb:jl t):
  f147 ((dm t,()),())=some (((),(true,())),(t,())):=by
 have g1:=alu (dm t) t [] (vW h) (by have:=j_ h;simpa using this) hs
 have ao:=Ar ((t,()),()) hb;have ao:f158 ((t,()),())=some ((d_ t,()),()):=ao;rw[h] at ao;have hl:=FS t (tl h) hb (j_ h);simp only[f147,g1,List.nil_append,Option.bind_some,ao,cond_true,hl,beq_self_eq_true]
theorem afS{n:bH}(h:dB n=true):ck 32 (cS n):=by
 obtain⟨h1,h2⟩:=zv h;have hs:ck 32 (dN n.kind):=by unfold dN;cases n.kind==1<;>cases n.kind==2<;>cases n.kind==3<;>exact ck.lit (by decide)
 refine((VC h1).cm hs).cm ?_
 rcases h2 with⟨_,h2⟩|⟨_,h2⟩
 ·rw[h2];exact ck.nil _
 ·exact Vv h2
abbrev iJ(rest:F)(i:Int)(ns:List bH)(bN vs:F)(lines:List F):wo.J:=(((),((),((),(rest,(i,()))))),(([]:List bH),(([]:List aG),((([]:F),(([]:F),((),((),())))),(ns,(([]:List aG),((bN,(vs,((),((),())))),(lines,()))))))))
abbrev q9(r:F)(ok:Bool)(ns:List bH)(bN vs:F):KR.J:=(((),(r,(ok,()))),(ns,(([]:List aG),((bN,(vs,((),((),())))),()))))
abbrev NS(ns:List bH)(bN vs:F):aF As:=.inr (((),((),())),(([]:List bH),(([]:List aG),((([]:F),(([]:F),((),((),())))),(ns,(([]:List aG),((bN,(vs,((),((),())))),())))))))
abbrev q_(k:Nat)(r:F)(ns:List bH)(bN vs:F):Prop:=r.length<=k/\ns.length<=9/\u3 k ns/\bN.length<=k/\vs.length<=k
theorem als(K:Nat)(bD:K<=2000000)(lines:List F)(dR:∀x,x∈lines->x.length<=K):∀(k i:Nat) (rest:F) (ns:List bH) (bN vs:F),k+i=9->rest.length<=K->ns.length<=i->u3 K ns->bN.length<=K->vs.length<=K->
  ∃(r:F) (ok:Bool) (j0:List bH) (ly ca:F),q_ K r j0 ly ca/\(l7 (iJ rest (i:Int) ns bN vs lines)=some (.inl (q9 r ok j0 ly ca))\/l7 (iJ rest (i:Int) ns bN vs lines)=some (NS j0 ly ca)):=by
 intro k;induction k with
 |zero=>
  intro i rest ns bN vs hi hr hn ha h1 h2;refine⟨[],false,ns,bN,vs,⟨Nat.zero_le _,by omega,ha,h1,h2⟩,.inr (cx ?_)⟩
  have d:decide ((i:Int)<=8)=false:=decide_eq_false (by omega)
  simp only[is,d,cond_false];cases decide ((i:Int)<(lines.length:Int))<;>rfl
 |succ k ih=>
  intro i rest ns bN vs hi hr hn ha h1 h2;have d:decide ((i:Int)<=8)=true:=decide_eq_true (by omega)
  by_cases hlt:i<lines.length
  ·have hx:lines[i]? =some lines[i]:=List.getElem?_eq_getElem hlt;have hxl:=dR _ (List.getElem_mem hlt);generalize lines[i]=x at hx hxl;have hin:aU lines.length (i:Int)=some i:=gg hlt;have hw1:IntKind.i64.wrap (((x.length:Nat):Int)+1)=((x.length+1:Nat):Int):=b6 (by unfold am;omega)
   have lA:IntKind.i64.wrap (((i:Nat):Int)+1)=((i+1:Nat):Int):=b6 (by unfold am;omega)
   have c2:=mL 32 x (by omega) 2
   have c2:f89 ((x,((32:Int),((2:Int),()))),())=_:=c2;have hm:=rc 32 2 x;have hp:=Pc 32 2 x;generalize splitN 32 2 x=ws at c2 hm hp;obtain⟨O,more,rfl⟩:∃O more,ws=O::more:=by
    cases ws with
    |nil=>exact absurd hp (by decide)
    |cons a b=>exact⟨a,b,rfl⟩
   have io:aU (O::more).length (0:Int)=some 0:=va (by simp)
   have dE:(O::more)[0]? =some O:=rfl;by_cases hlen:rest.length<x.length+1
   ·have j7:decide (((rest.length:Nat):Int)<((x.length+1:Nat):Int))=true:=decide_eq_true (by omega)
    refine⟨[],false,ns,bN,vs,⟨Nat.zero_le _,by omega,ha,h1,h2⟩,.inl (cx ?_)⟩
    simp only[is,cn hlt,d,cond_true,hin,Option.bind_some,hx,c2,hw1,j7]
   ·have j7:decide (((rest.length:Nat):Int)<((x.length+1:Nat):Int))=false:=decide_eq_false (by omega)
    have hs:bE rest ((x.length+1:Nat):Int) ((rest.length:Nat):Int)=some (rest.drop (x.length+1)):=hI (by omega)
    have oy:(rest.drop (x.length+1)).length<=K:=by simp;omega
    generalize rest.drop (x.length+1)=r1 at hs oy;have go:∀(gw:List bH) (Ee ye:F),gw.length<=i+1->u3 K gw->Ee.length<=K->ye.length<=K->is (iJ rest (i:Int) ns bN vs lines)=some (.inl (iJ r1 ((i+1:Nat):Int) gw Ee ye lines))->
      ∃(r:F) (ok:Bool) (j0:List bH) (ly ca:F),q_ K r j0 ly ca/\(l7 (iJ rest (i:Int) ns bN vs lines)=some (.inl (q9 r ok j0 ly ca))\/l7 (iJ rest (i:Int) ns bN vs lines)=some (NS j0 ly ca)):=by
     intro gw Ee ye q1 q2 dq kA sV;obtain⟨r,ok,j0,ly,ca,b,e⟩:=ih (i+1) r1 gw Ee ye (by omega) oy q1 q2 dq kA
     exact⟨r,ok,j0,ly,ca,b,e.imp (dL sV).trans (dL sV).trans⟩
    have stop:∀(r:F) (ok:Bool),r.length<=K->is (iJ rest (i:Int) ns bN vs lines)=some (.inr (.inl (q9 r ok ns bN vs)))->
      ∃(r:F) (ok:Bool) (j0:List bH) (ly ca:F),q_ K r j0 ly ca/\(l7 (iJ rest (i:Int) ns bN vs lines)=some (.inl (q9 r ok j0 ly ca))\/l7 (iJ rest (i:Int) ns bN vs lines)=some (NS j0 ly ca)):=
     fun r ok q1 q2=>⟨r,ok,ns,bN,vs,⟨q1,by omega,ha,h1,h2⟩,.inl (cx q2)⟩
    match i,hn,hi,hin,lA,hlt,hx,d,go,stop,ih with
    |0,hn,hi,hin,lA,hlt,hx,d,go,stop,ih=>
     refine go ns bN vs (by omega) ha h1 h2 ?_
     have t1:((((0:Nat):Int))==1)=false:=rfl;have t2:decide ((((0:Nat):Int))>1)=false:=rfl;have t3:decide ((((0:Nat):Int))>0)=false:=rfl;simp only[is,cn hlt,d,cond_true,hin,Option.bind_some,hx,c2,hw1,j7,cond_false,hs,l2,t1,mK,t2,oK,t3,lA]
    |1,hn,hi,hin,lA,hlt,hx,d,go,stop,ih=>
     have t1:((((1:Nat):Int))==1)=true:=rfl;have t2:decide ((((1:Nat):Int))>1)=false:=rfl;have t3:decide ((((1:Nat):Int))>0)=true:=rfl;cases hc:(O==([112,97,99,107]:F))&&(((O::more).length:Int)==3) with
     |true=>
      rw[Bool.and_eq_true] at hc;obtain⟨aO,w2,rfl⟩:∃aO w2,more=[aO,w2]:=by
       have:more.length=2:=by have:=eq_of_beq hc.2;simp at this;omega
       match more,this with
       |[a,b],_=>exact⟨a,b,rfl⟩
      refine go ns aO w2 (by omega) ha (by have:=hm aO (by simp);omega) (by have:=hm w2 (by simp);omega) ?_
      have mH:aU ([O,aO,w2]:List F).length (1:Int)=some 1:=rfl;have q6:aU ([O,aO,w2]:List F).length (2:Int)=some 2:=rfl;have eW:([O,aO,w2]:List F)[1]? =some aO:=rfl;have ea:([O,aO,w2]:List F)[2]? =some w2:=rfl;simp only[is,cn hlt,d,cond_true,hin,Option.bind_some,hx,c2,hw1,j7,cond_false,hs,l2,t1,io,dE,hc.1,hc.2,mH,q6,eW,ea,lA]
     |false=>
      refine stop [] false (Nat.zero_le _) ?_
      simp only[is,cn hlt,d,cond_true,hin,Option.bind_some,hx,c2,hw1,j7,cond_false,hs,l2,t1,io,dE];cases bq:O==([112,97,99,107]:F) with
      |false=>simp only[cond_false,Option.bind_some,mK,t2,oK,t3,cond_true]
      |true=>
       rw[bq,Bool.true_and] at hc;simp only[cond_true,hc,cond_false,Option.bind_some,mK,t2,oK,t3]
    |j+2,hn,hi,hin,lA,hlt,hx,d,go,stop,ih=>
     have t1:((((j+2:Nat):Int))==1)=false:=by rw[beq_eq_false_iff_ne];omega
     have t2:decide ((((j+2:Nat):Int))>1)=true:=decide_eq_true (by omega)
     have t3:decide ((((j+2:Nat):Int))>0)=true:=decide_eq_true (by omega)
     cases hxe:x==([]:F) with
     |true=>
      refine stop r1 true oy ?_
      simp only[is,cn hlt,d,cond_true,hin,Option.bind_some,hx,c2,hw1,j7,cond_false,hs,l2,t1,mK,t2,hxe]
     |false=>
      cases hc:(O==([110,101,101,100]:F))&&(((O::more).length:Int)==2) with
      |true=>
       rw[Bool.and_eq_true] at hc;obtain⟨aO,rfl⟩:∃aO,more=[aO]:=by
        have:more.length=1:=by have:=eq_of_beq hc.2;simp at this;omega
        match more,this with
        |[a],_=>exact⟨a,rfl⟩
       have axt:=hm aO (by simp)
       obtain⟨n,ok,e1,e2,bp⟩:=acB aO (by omega)
       have fw:cw 40 ns ([(bH.mk n.name n.kind n.aW)]:List bH)=some (ns++[n]):=ey (by decide) (by unfold am;simp;omega)
       refine go (ns++[n]) bN vs (by simp;omega) (fun z hz=>by
        rcases List.mem_append.1 hz with hz|hz
        ·exact ha z hz
        ·rw[List.mem_singleton.1 hz];exact⟨by omega,by omega⟩) h1 h2 ?_
       have mH:aU ([O,aO]:List F).length (1:Int)=some 1:=rfl;have eW:([O,aO]:List F)[1]? =some aO:=rfl;simp only[is,cn hlt,d,cond_true,hin,Option.bind_some,hx,c2,hw1,j7,cond_false,hs,l2,t1,mK,t2,hxe,oK,io,dE,hc.1,hc.2,mH,eW,e1,fw,lA]
      |false=>
       refine stop [] false (Nat.zero_le _) ?_
       simp only[is,cn hlt,d,cond_true,hin,Option.bind_some,hx,c2,hw1,j7,cond_false,hs,l2,t1,mK,t2,hxe,oK,io,dE];cases bq:O==([110,101,101,100]:F) with
       |false=>simp only[cond_false,Option.bind_some,t3,cond_true]
       |true=>
        rw[bq,Bool.true_and] at hc;simp only[cond_true,hc,cond_false,Option.bind_some,t3]
  ·have awj:decide ((i:Int)<(lines.length:Int))=false:=decide_eq_false (by omega)
   refine⟨[],false,ns,bN,vs,⟨Nat.zero_le _,by omega,ha,h1,h2⟩,.inr (cx ?_)⟩
   simp only[is,awj,cond_false]
theorem abT(s:F)(hs:s.length<=2000000):∃(r:F) (ok:Bool) (ns:List bH) (bN vs:F),f146 ((s,()),())=some (q9 r ok ns bN vs)/\q_ s.length r ns bN vs:=by
 have hw:IntKind.i64.wrap (((s.length:Nat):Int)+1)=((s.length+1:Nat):Int):=b6 (by unfold am;omega)
 have c1:=mL 10 s (by omega) (s.length+1)
 have c1:f89 ((s,((10:Int),(((s.length+1:Nat):Int),()))),())=_:=c1;obtain⟨r,ok,ns,bN,vs,hb,e⟩:=als s.length hs (splitN 10 (s.length+1) s) (rc 10 _ s) 9 0 s [] [] [] rfl (Nat.le_refl _) (Nat.zero_le _) (fun x hx=>by cases hx) (Nat.zero_le _) (Nat.zero_le _)
 rcases e with e|e
 ·have e:l7 (iJ s (0:Int) [] [] [] (splitN 10 (s.length+1) s))=_:=e;refine⟨r,ok,ns,bN,vs,?_,hb⟩;simp only[f146,hw,c1,Option.bind_some,e]
 ·have e:l7 (iJ s (0:Int) [] [] [] (splitN 10 (s.length+1) s))=_:=e;refine⟨[],false,ns,bN,vs,?_,⟨Nat.zero_le _,hb.2⟩⟩;simp only[f146,hw,c1,Option.bind_some,e]
noncomputable abbrev au7:bl:=[(98,M9),(146,YB),(147,YA),(148,LH)]
theorem Nd:bc Z (bi ak au7):=bj ⟨Zc,z146,aof,z148,⟨⟩⟩
abbrev Tr:Shape:=⟨[aq 0,a8 2 2 0,a8 4 4 0,aq 5,aC 6],[bI 5000130 .need 2 2,bI 5000131 .entry 2 3,a7 2 [ax,ax,.own 5000130,.own 5000131],bI 5000258 .need 4 2,bI 5000259 .entry 4 3,a7 4 [ax,ax,.own 5000258,.own 5000259]],45⟩
abbrev Ti:List aR:=[(.norm,⟨[aq 0,a8 2 2 0,a8 4 4 0,aq 5,aC 21],[bI 5000130 .need 2 2,bI 5000131 .entry 2 3,a7 2 [ax,ax,.own 5000130,.own 5000131],bI 5000258 .need 4 2,bI 5000259 .entry 4 3,a7 4 [ax,ax,.own 5000258,.own 5000259]],45⟩)]
noncomputable def o_(y:Tr.J):Option (aF Ti):=
 bif(!(!y.1.2.2.2.2.1)) then
 some ((y.1.1,(),(),y.1.2.2.2.1,(decide ((y.1.1.length:Int)>(4000:Int))),()),y.2.1,y.2.2.1,(y.2.2.2.1.1,y.2.2.2.1.2.1,(),(),()),y.2.2.2.2.1,y.2.2.2.2.2.1,(y.2.2.2.2.2.2.1.1,y.2.2.2.2.2.2.1.2.1,(),(),()),())
else
 some ((y.1.1,(),(),y.1.2.2.2.1,true,()),y.2.1,y.2.2.1,(y.2.2.2.1.1,y.2.2.2.1.2.1,(),(),()),y.2.2.2.2.1,y.2.2.2.2.2.1,(y.2.2.2.2.2.2.1.1,y.2.2.2.2.2.2.1.2.1,(),(),()),())
theorem ak2:aX Z (ap (codeOf Tryz.f92) 1 28) (bb Tr Ti o_):=c8 Nd (by kernel_rfl) aj fun y=>by kernel_rfl
abbrev Sj:Shape:=⟨[aq 0,a8 2 2 0,a8 4 4 0,aC 8],[bI 5000130 .need 2 2,bI 5000131 .entry 2 3,a7 2 [ax,ax,.own 5000130,.own 5000131],bI 5000258 .need 4 2,bI 5000259 .entry 4 3,a7 4 [ax,ax,.own 5000258,.own 5000259]],45⟩
abbrev R6:List aR:=[(.norm,⟨[a8 2 2 0,a8 4 4 0,aC 42],[bI 5000130 .need 2 2,bI 5000131 .entry 2 3,a7 2 [ax,ax,.own 5000130,.own 5000131],bI 5000258 .need 4 2,bI 5000259 .entry 4 3,a7 4 [ax,ax,.own 5000258,.own 5000259]],45⟩)]
noncomputable def rG(y:Sj.J):Option (aF R6):=
 bif(!(!y.1.2.2.2.1)) then
(f98 (((y.2.2.2.2.2.2.1.1,y.2.2.2.2.2.2.1.2.1,y.2.2.2.2.1,y.2.2.2.2.2.1,()),()),())).bind fun a=>
 bif(!(!a.1.1)) then
(f148 (((y.2.2.2.2.2.2.1.1,y.2.2.2.2.2.2.1.2.1,y.2.2.2.2.1,y.2.2.2.2.2.1,()),()),())).bind fun b=>
 some (((),(),(!(b.1.1==y.1.1)),()),y.2.1,y.2.2.1,(y.2.2.2.1.1,y.2.2.2.1.2.1,(),(),()),y.2.2.2.2.1,y.2.2.2.2.2.1,(y.2.2.2.2.2.2.1.1,y.2.2.2.2.2.2.1.2.1,(),(),()),())
else
 some (((),(),true,()),y.2.1,y.2.2.1,(y.2.2.2.1.1,y.2.2.2.1.2.1,(),(),()),y.2.2.2.2.1,y.2.2.2.2.2.1,(y.2.2.2.2.2.2.1.1,y.2.2.2.2.2.2.1.2.1,(),(),()),())
else
 some (((),(),true,()),y.2.1,y.2.2.1,(y.2.2.2.1.1,y.2.2.2.1.2.1,(),(),()),y.2.2.2.2.1,y.2.2.2.2.2.1,(y.2.2.2.2.2.2.1.1,y.2.2.2.2.2.2.1.2.1,(),(),()),())
theorem aiT:aX Z (ap (codeOf Tryz.f92) 1 252) (bb Sj R6 rG):=c8 Nd (by kernel_rfl) aj fun y=>by kernel_rfl
abbrev i92:Shape:=⟨[aq 0],[],45⟩
abbrev yh:Shape:=⟨[a8 2 2 0,aC 3],[bI 5000130 .need 2 2,bI 5000131 .entry 2 3,a7 2 [ax,ax,.own 5000130,.own 5000131]],45⟩
noncomputable def f92(a:i92.J):Option yh.J:=
(f146 ((a.1.1,()),())).bind fun b=>
(o_ ((a.1.1,(),(),b.1.2.1,b.1.2.2.1,()),([]:List bH),([]:List aG),(([]:F),([]:F),(),(),()),b.2.1,b.2.2.1,(b.2.2.2.1.1,b.2.2.2.1.2.1,(),(),()),())).bind fun c=>
 bif c.1.2.2.2.2.1 then
 some (((),false,()),([]:List bH),([]:List aG),(([]:F),([]:F),(),(),()),())
else
(f147 ((c.1.2.2.2.1,()),())).bind fun d=>
(rG ((c.1.1,(),(),d.1.2.1,()),c.2.1,c.2.2.1,(c.2.2.2.1.1,c.2.2.2.1.2.1,(),(),()),c.2.2.2.2.1,d.2.1,(c.2.2.2.2.2.2.1.1,c.2.2.2.2.2.2.1.2.1,(),(),()),())).bind fun e=>
 bif e.1.2.2.1 then
 some (((),false,()),([]:List bH),([]:List aG),(([]:F),([]:F),(),(),()),())
else
 some (((),true,()),e.2.2.2.2.1,e.2.2.2.2.2.1,(e.2.2.2.2.2.2.1.1,e.2.2.2.2.2.2.1.2.1,(),(),()),())
noncomputable def _J:aK:=a6 ak Tryz.f92 i92 yh [] f92
theorem arZ:aL Z 92 _J:=ba Nd Tryz.func92 (by kernel_rfl) (bd ak2 (bd aiT aj)) (fun y=>by kernel_rfl) fun a=>by kernel_rfl
def eC(n:bH):F:=gl++32::cS n
theorem alF{n:bH}(h:dB n=true):ck 10 (eC n):=(ck.lit (by decide)).cm fun z hz=>by
 rcases List.mem_cons.1 hz with rfl|hz
 ·decide
 ·exact Sy h z hz
theorem RC(n:bH)(r:F):cR n++r=eC n++10::r:=by unfold cR eC gl;simp
theorem alr:∀(ns acc:List bH) (pre more:List F) (L bN vs:F),(∀n,n∈ns->dB n=true)->2<=pre.length->acc.length<=pre.length->pre.length+ns.length<=8->(ns.flatMap cR++10::L).length<=2000000->
  l7 (iJ (ns.flatMap cR++10::L) (pre.length:Int) acc bN vs (pre++(ns.map eC++[]::more)))=some (.inl (q9 L true (acc++ns) bN vs)):=by
 intro ns;induction ns with
 |nil=>
  intro acc pre more L bN vs _ hp _ hi hs;have hlt:pre.length<(pre++(([]:List bH).map eC++[]::more)).length:=by simp
  have hx:(pre++(([]:List bH).map eC++[]::more))[pre.length]? =some []:=by rw[List.getElem?_append_right (Nat.le_refl _)];simp
  have hin:=gg hlt;have d:decide ((pre.length:Int)<=8)=true:=decide_eq_true (by simp at hi;omega)
  have c2:=mL 32 [] (by simp) 2
  have c2:f89 ((([]:F),((32:Int),((2:Int),()))),())=some (((),()),([[]],())):=c2;have hw1:IntKind.i64.wrap (((([]:F).length:Nat):Int)+1)=((1:Nat):Int):=by decide
  have j7:decide (((((10:UInt8)::L).length:Nat):Int)<((1:Nat):Int))=false:=decide_eq_false (by simp only[List.length_cons];omega)
  have lD:bE ((10:UInt8)::L) ((1:Nat):Int) ((((10:UInt8)::L).length:Nat):Int)=some L:=hI (xs:=(10:UInt8)::L) (by simp)
  have t1:((pre.length:Int)==1)=false:=by rw[beq_eq_false_iff_ne];omega
  have t2:decide ((pre.length:Int)>1)=true:=decide_eq_true (by omega)
  have hxe:(([]:F)==([]:F))=true:=rfl;rw[List.append_nil];refine cx ?_
  show is (iJ (10::L) (pre.length:Int) acc bN vs _)=_;simp only[is,cn hlt,d,cond_true,hin,Option.bind_some,hx,c2,hw1,j7,cond_false,lD,l2,t1,mK,t2,hxe]
 |cons n ns ih=>
  intro acc pre more L bN vs h hp ha hi hs;have hk:=h n List.mem_cons_self;have hE:(n::ns).flatMap cR++10::L=eC n++10::(ns.flatMap cR++10::L):=by rw[List.flatMap_cons,List.append_assoc,RC]
  rw[hE] at hs ⊢;have hR:pre++((n::ns).map eC++[]::more)=(pre++[eC n])++(ns.map eC++[]::more):=by simp
  have hlt:pre.length<(pre++((n::ns).map eC++[]::more)).length:=by simp
  have hx:(pre++((n::ns).map eC++[]::more))[pre.length]? =some (eC n):=by rw[List.getElem?_append_right (Nat.le_refl _)];simp
  have hin:=gg hlt;have axV:(eC n).length=gl.length+1+(cS n).length:=by unfold eC;simp;omega
  simp only[List.length_append,List.length_cons] at hs hi;have d:decide ((pre.length:Int)<=8)=true:=decide_eq_true (by omega)
  have nx:splitN 32 2 (eC n)=[gl,cS n]:=by
   have hn:ck 32 gl:=ck.lit (by decide)
   unfold eC;rw[Pd hn,P1 (afS hk)]
  have c2:=mL 32 (eC n) (by omega) 2
  rw[nx] at c2;have c2:f89 ((eC n,((32:Int),((2:Int),()))),())=some (((),()),([gl,cS n],())):=c2;have hw1:IntKind.i64.wrap ((((eC n).length:Nat):Int)+1)=(((eC n).length+1:Nat):Int):=b6 (by unfold am;omega)
  have lA:IntKind.i64.wrap (((pre.length:Nat):Int)+1)=((pre.length+1:Nat):Int):=b6 (by unfold am;omega)
  have j7:decide ((((eC n++10::(ns.flatMap cR++10::L)).length:Nat):Int)<(((eC n).length+1:Nat):Int))=false:=decide_eq_false (by simp;omega)
  have lD:bE (eC n++10::(ns.flatMap cR++10::L)) (((eC n).length+1:Nat):Int) (((eC n++10::(ns.flatMap cR++10::L)).length:Nat):Int)=some (ns.flatMap cR++10::L):=by
   rw[hI (by simp only[List.length_append,List.length_cons];omega)]
   refine congrArg some ?_
   rw[show eC n++10::(ns.flatMap cR++10::L)=(eC n++[10])++(ns.flatMap cR++10::L) by simp,List.drop_left' (by simp)]
  have t1:((pre.length:Int)==1)=false:=by rw[beq_eq_false_iff_ne];omega
  have t2:decide ((pre.length:Int)>1)=true:=decide_eq_true (by omega)
  have hxe:(eC n==([]:F))=false:=rfl;have io:aU ([gl,cS n]:List F).length (0:Int)=some 0:=rfl;have mH:aU ([gl,cS n]:List F).length (1:Int)=some 1:=rfl;have dE:([gl,cS n]:List F)[0]? =some gl:=rfl;have eW:([gl,cS n]:List F)[1]? =some (cS n):=rfl;have q0:(gl==([110,101,101,100]:F))=true:=rfl;have q2:((([gl,cS n]:List F).length:Int)==2)=true:=rfl;obtain⟨ok,e1⟩:=acA hk (by omega)
  have fw:cw 40 acc ([(bH.mk n.name n.kind n.aW)]:List bH)=some (acc++[n]):=ey (by decide) (by unfold am;simp;omega)
  have st:is (iJ (eC n++10::(ns.flatMap cR++10::L)) (pre.length:Int) acc bN vs (pre++((n::ns).map eC++[]::more)))=some (.inl (iJ (ns.flatMap cR++10::L) ((pre.length+1:Nat):Int) (acc++[n]) bN vs (pre++((n::ns).map eC++[]::more)))):=by
   simp only[is,cn hlt,d,cond_true,hin,Option.bind_some,hx,c2,hw1,j7,cond_false,lD,l2,t1,mK,t2,hxe,oK,io,dE,q0,q2,mH,eW,e1,fw,lA]
  have:=ih (acc++[n]) (pre++[eC n]) more L bN vs (fun x hx=>h x (List.mem_cons_of_mem _ hx)) (by simp;omega) (by simp;omega) (by simp;omega) (by simp only[List.length_append,List.length_cons];omega)
  rw[<-hR,List.append_assoc] at this;have k2:(pre++[eC n]).length=pre.length+1:=by simp
  rw[k2] at this;exact(dL st).trans this
theorem ac6(ns:List bH)(r:F)(h:∀n,n∈ns->dB n=true):bQ 10 (ns.flatMap cR++10::r)=ns.map eC++[]::bQ 10 r:=by
 induction ns with
 |nil=>exact td (a:=[]) (ck.nil 10)
 |cons n ns ih=>
  rw[List.flatMap_cons,List.append_assoc,RC,td (alF (h n List.mem_cons_self)),ih fun x hx=>h x (List.mem_cons_of_mem _ hx)]
  rfl
theorem aiN(p:aT):ck 10 (e8 p):=(ck.lit (by decide)).cm (Sh _)
theorem abS(p:aT)(hk:cT p=true)(hs:(bO p).length<=2000000):f146 ((bO p,()),())=some (q9 (dm p.bK) true p.bh p.name p.aW):=by
 have hw:IntKind.i64.wrap ((((bO p).length:Nat):Int)+1)=(((bO p).length+1:Nat):Int):=b6 (by unfold am;omega)
 have c1:=mL 10 (bO p) (by omega) ((bO p).length+1)
 obtain⟨h1,h2,h3,aD,_,cB⟩:=oN hk;have lC:splitN 10 ((bO p).length+1) (bO p)=e8 p::ec p::(p.bh.map eC++[]::bQ 10 (dm p.bK)):=by
  rw[zA 10 _ _ (by omega),wL,td (aiN p),wD,td (RI hk),jv,ac6 _ _ h3]
 rw[lC] at c1;have c1:f89 ((bO p,((10:Int),((((bO p).length+1:Nat):Int),()))),())=_:=c1;generalize awb:p.bh.map eC++[]::bQ 10 (dm p.bK)=fI at c1;have EY:bO p=e8 p++10::du p:=wL p;have hB:du p=ec p++10::jv p:=wD p;have c9:(bO p).length=(e8 p).length+1+(du p).length:=by rw[EY];simp;omega
 have fU:(du p).length=(ec p).length+1+(jv p).length:=by rw[hB];simp;omega
 have hlt:∀i,i<2->decide (((i:Nat):Int)<(((e8 p::ec p::fI).length:Nat):Int))=true:=fun i hi=>decide_eq_true (by simp;omega)
 have i0:aU (e8 p::ec p::fI).length (0:Int)=some 0:=va (by simp)
 have i1:aU (e8 p::ec p::fI).length ((0+1:Nat):Int)=some 1:=Mf (by simp)
 have fF:(e8 p::ec p::fI)[0]? =some (e8 p):=rfl;have eE:(e8 p::ec p::fI)[1]? =some (ec p):=rfl;have iY:is (iJ (bO p) (0:Int) [] [] [] (e8 p::ec p::fI))=some (.inl (iJ (du p) ((0+1:Nat):Int) [] [] [] (e8 p::ec p::fI))):=by
  have d:decide ((0:Int)<=8)=true:=rfl;have d0:decide ((0:Int)<(((e8 p::ec p::fI).length:Nat):Int))=true:=hlt 0 (by decide)
  have c2:=mL 32 (e8 p) (by omega) 2
  have c2:f89 ((e8 p,((32:Int),((2:Int),()))),())=_:=c2;have hw1:IntKind.i64.wrap ((((e8 p).length:Nat):Int)+1)=(((e8 p).length+1:Nat):Int):=b6 (by unfold am;omega)
  have j7:decide ((((bO p).length:Nat):Int)<(((e8 p).length+1:Nat):Int))=false:=decide_eq_false (by omega)
  have lD:bE (bO p) (((e8 p).length+1:Nat):Int) (((bO p).length:Nat):Int)=some (du p):=by
   rw[hI (by omega)]
   refine congrArg some ?_
   rw[EY,show e8 p++10::du p=(e8 p++[10])++du p by simp,List.drop_left' (by simp)]
  have t1:((0:Int)==1)=false:=rfl;have t2:decide ((0:Int)>1)=false:=rfl;have t3:decide ((0:Int)>0)=false:=rfl;have lA:IntKind.i64.wrap ((0:Int)+1)=((0+1:Nat):Int):=by decide
  simp only[is,d0,d,cond_true,i0,Option.bind_some,fF,c2,hw1,j7,cond_false,lD,l2,t1,mK,t2,oK,t3,lA]
 have s1:is (iJ (du p) ((0+1:Nat):Int) [] [] [] (e8 p::ec p::fI))=some (.inl (iJ (jv p) ((([e8 p,ec p]:List F).length:Nat):Int) [] p.name p.aW (e8 p::ec p::fI))):=by
  have d:decide (((0+1:Nat):Int)<=8)=true:=rfl;have d0:=hlt 1 (by decide)
  have d0:decide (((0+1:Nat):Int)<(((e8 p::ec p::fI).length:Nat):Int))=true:=d0;have nx:splitN 32 2 (ec p)=[jf,p.name,p.aW]:=by
   rw[zB 32 2 _ (by rw[Fx hk];exact Nat.le_refl 3),Fx hk]
  have c2:=mL 32 (ec p) (by omega) 2
  rw[nx] at c2;have c2:f89 ((ec p,((32:Int),((2:Int),()))),())=some (((),()),([jf,p.name,p.aW],())):=c2;have hw1:IntKind.i64.wrap ((((ec p).length:Nat):Int)+1)=(((ec p).length+1:Nat):Int):=b6 (by unfold am;omega)
  have j7:decide ((((du p).length:Nat):Int)<(((ec p).length+1:Nat):Int))=false:=decide_eq_false (by omega)
  have lD:bE (du p) (((ec p).length+1:Nat):Int) (((du p).length:Nat):Int)=some (jv p):=by
   rw[hI (by omega)]
   refine congrArg some ?_
   rw[hB,show ec p++10::jv p=(ec p++[10])++jv p by simp,List.drop_left' (by simp)]
  have t1:(((0+1:Nat):Int)==1)=true:=rfl;have io:aU ([jf,p.name,p.aW]:List F).length (0:Int)=some 0:=rfl;have mH:aU ([jf,p.name,p.aW]:List F).length (1:Int)=some 1:=rfl;have q6:aU ([jf,p.name,p.aW]:List F).length (2:Int)=some 2:=rfl;have dE:([jf,p.name,p.aW]:List F)[0]? =some jf:=rfl;have eW:([jf,p.name,p.aW]:List F)[1]? =some p.name:=rfl;have ea:([jf,p.name,p.aW]:List F)[2]? =some p.aW:=rfl;have q0:(jf==([112,97,99,107]:F))=true:=rfl;have dq:((([jf,p.name,p.aW]:List F).length:Int)==3)=true:=rfl;have lA:IntKind.i64.wrap (((0+1:Nat):Int)+1)=((([e8 p,ec p]:List F).length:Nat):Int):=by show IntKind.i64.wrap (((0+1:Nat):Int)+1)=((2:Nat):Int);decide
  simp only[is,d0,d,cond_true,i1,Option.bind_some,eE,c2,hw1,j7,cond_false,lD,l2,t1,io,dE,q0,dq,mH,q6,eW,ea,lA]
 have s2:=alr p.bh [] [e8 p,ec p] (bQ 10 (dm p.bK)) (dm p.bK) p.name p.aW h3 (Nat.le_refl 2) (Nat.zero_le _) (by simp;omega) (by show(jv p).length<=_;omega)
 rw[awb] at s2;have e:l7 (iJ (bO p) (0:Int) [] [] [] (e8 p::ec p::fI))=some (.inl (q9 (dm p.bK) true p.bh p.name p.aW)):=(dL iY).trans ((dL s1).trans s2);simp only[f146,hw,c1,Option.bind_some,e]
abbrev s5(p:aT):yh.J:=(((),(true,())),(p.bh,(p.bK,((p.name,(p.aW,((),((),())))),()))))
abbrev NP:yh.J:=(((),(false,())),(([]:List bH),(([]:List aG),((([]:F),(([]:F),((),((),())))),()))))
theorem alX{p q:aT}(h:s5 p=s5 q):p=q:=by
 obtain⟨a,b,c,d⟩:=p;obtain⟨cP,bf,fV,aaL⟩:=q;simp only[s5,Prod.mk.injEq] at h;obtain⟨_,rfl,rfl,⟨rfl,rfl,_⟩,_⟩:=h;rfl
theorem Fe{p:aT}(hk:cT p=true)(hl:(bO p).length<=4000):f92 ((bO p,()),())=some (s5 p):=by
 have hb:=JI hk hl;obtain⟨h1,h2,h3,aD,_,cB⟩:=oN hk;obtain⟨q1,q2,dq,kA⟩:=zF p;have c1:=abS p hk (by omega)
 have d:decide (((bO p).length:Int)>4000)=false:=decide_eq_false (by omega)
 have c2:=aba p.bK cB (by omega) hb.2.2.2
 have c3:=GI (((p.name,(p.aW,(p.bh,(p.bK,())))),()),()) hb;have c3:f98 (((p.name,(p.aW,(p.bh,(p.bK,())))),()),())=some ((cT p,()),()):=c3;rw[hk] at c3;have dh:=HU p hb hk;simp only[f92,c1,Option.bind_some,o_,Bool.not_true,Bool.not_false,cond_true,d,cond_false,c2,rG,c3,dh,beq_self_eq_true]
theorem abt(s:F)(hs:s.length<=2000000):f92 ((s,()),())=some NP\/∃p:aT,f92 ((s,()),())=some (s5 p)/\cT p=true/\bO p=s/\s.length<=4000:=by
 obtain⟨r,ok,ns,bN,vs,c1,aw,an,bo,cl,ee⟩:=abT s hs;cases ok with
 |false=>
  refine .inl ?_
  simp only[f92,c1,Option.bind_some,o_,Bool.not_true,Bool.not_false,cond_true,cond_false]
 |true=>
  by_cases hl:s.length<=4000
  ·have d:decide ((s.length:Int)>4000)=false:=decide_eq_false (by omega)
   obtain⟨L6,t,c2,gz,za⟩:=abb r (by omega)
   cases L6 with
   |false=>
    refine .inl ?_
    simp only[f92,c1,Option.bind_some,o_,Bool.not_true,Bool.not_false,cond_true,d,cond_false,c2,rG]
   |true=>
    have hb:k6 ⟨bN,vs,ns,t⟩:=⟨by show bN.length<=2097152;omega,by show vs.length<=2097152;omega,⟨by show ns.length<=2097152;omega,fun n hn=>by have:=bo n hn;exact⟨by show n.name.length<=2097152;omega,by show n.aW.length<=2097152;omega⟩⟩,S9 gz za⟩
    have c3:=GI (((bN,(vs,(ns,(t,())))),()),()) hb;have c3:f98 (((bN,(vs,(ns,(t,())))),()),())=some ((cT ⟨bN,vs,ns,t⟩,()),()):=c3;cases hk:cT ⟨bN,vs,ns,t⟩ with
    |false=>
     rw[hk] at c3;refine .inl ?_
     simp only[f92,c1,Option.bind_some,o_,Bool.not_true,Bool.not_false,cond_true,d,cond_false,c2,rG,c3]
    |true=>
     rw[hk] at c3;have dh:=HU ⟨bN,vs,ns,t⟩ hb hk;have dh:f148 (((bN,(vs,(ns,(t,())))),()),())=_:=dh;cases he:bO ⟨bN,vs,ns,t⟩==s with
     |false=>
      refine .inl ?_
      simp only[f92,c1,Option.bind_some,o_,Bool.not_true,Bool.not_false,cond_true,d,cond_false,c2,rG,c3,dh,he]
     |true=>
      refine .inr ⟨⟨bN,vs,ns,t⟩,?_,hk,eq_of_beq he,hl⟩;simp only[f92,c1,Option.bind_some,o_,Bool.not_true,Bool.not_false,cond_true,d,cond_false,c2,rG,c3,dh,he]
  ·have d:decide ((s.length:Int)>4000)=true:=decide_eq_true (by omega)
   refine .inl ?_
   simp only[f92,c1,Option.bind_some,o_,Bool.not_true,Bool.not_false,cond_true,d]
def awr(D:Option aT):yh.J:=match D with|some p=>s5 p|none=>NP
theorem aeZ(s:F)(hs:s.length<=2000000):∃D:Option aT,f92 ((s,()),())=some (awr D)/\rQ D (ZZ s):=by
 rcases abt s hs with h|⟨p,h,h1,h2,h3⟩
 ·refine⟨none,h,fun p=>⟨fun hp=>(by cases hp),fun⟨q1,q2,dq⟩=>?_⟩⟩
  subst q2;have:=Fe q1 dq;rw[h] at this;simp only[Option.some.injEq,Prod.mk.injEq] at this;exact absurd this.1.2.1 (by decide)
 ·refine⟨some p,h,fun q=>⟨fun hp=>?_,fun⟨q1,q2,dq⟩=>?_⟩⟩
  ·cases hp;exact⟨h1,h2,h3⟩
  ·subst q2;have:=Fe q1 dq;rw[h] at this;rw[alX (Option.some.inj this)]
noncomputable abbrev avk:bl:=[(46,_X),(89,vz),(90,EL),(91,pN),(92,_J),(93,_I)]
theorem EP:bc Z (bi ak avk):=bj ⟨z46,yc,LW,z91,arZ,z93,⟨⟩⟩
abbrev Ro:Shape:=⟨[aq 0,a8 2 2 0,a8 4 4 0,a' 6 3000384,ad 7],[bI 5000128 .pack 2 0,a7 2 [.own 5000128],bI 5000256 .pack 4 0,a7 4 [.own 5000256],bg 3000384 .str 6 0],73⟩
abbrev Q9:List aR:=[(.norm,⟨[aq 0,a8 2 2 0,a8 4 4 0,a' 6 3000384,ad 7,aC 37],[bI 5000128 .pack 2 0,a7 2 [.own 5000128],bI 5000256 .pack 4 0,a7 4 [.own 5000256],bg 3000384 .str 6 0],73⟩)]
noncomputable def ru(y:Ro.J):Option (aF Q9):=
 bif(!(decide ((y.2.2.2.2.2.1.length:Int)<(2:Int)))) then
(aU y.2.2.2.2.2.1.length (1:Int)).bind fun a=>
(y.2.2.2.2.2.1[a]?).bind fun b=>
(f91 ((y.1.2.2.2.2.1,(1:Int),(b.length:Int),()),())).bind fun c=>
 some ((y.1.1,(),(),(),y.1.2.2.2.2.1,(!c.1.1),()),y.2.1,((),()),y.2.2.2.1,((),()),y.2.2.2.2.2.1,())
else
 some ((y.1.1,(),(),(),y.1.2.2.2.2.1,true,()),y.2.1,((),()),y.2.2.2.1,((),()),y.2.2.2.2.2.1,())
theorem ahg:aX Z (ap (di (ap (codeOf Tryz.f49) 1 60)) 120 7724) (bb Ro Q9 ru):=c8 EP (by kernel_rfl) aj fun y=>by kernel_rfl
abbrev w8:Shape:=⟨[aq 0,a8 2 2 0,a8 4 4 0,aq 5],[bI 5000128 .pack 2 0,a7 2 [.own 5000128],bI 5000256 .pack 4 0,a7 4 [.own 5000256]],73⟩
abbrev Ci:List aR:=[(.ret,⟨[a8 2 2 0,aC 3],[bI 5000128 .pack 2 0,a7 2 [.own 5000128]],73⟩),(.exit 0,⟨[aq 0,a8 2 2 0,a8 4 4 0],[bI 5000128 .pack 2 0,a7 2 [.own 5000128],bI 5000256 .pack 4 0,a7 4 [.own 5000256]],73⟩)]
noncomputable def o'(y:w8.J):bR w8 Ci:=
 bif(!(y.1.2.2.2.1==([]:F))) then
 bif(decide ((y.2.2.2.1.length:Int)<=(5:Int))) then
(f89 ((y.1.2.2.2.1,(10:Int),(1:Int),()),())).bind fun a=>
(aU a.2.1.length (0:Int)).bind fun b=>
(a.2.1[b]?).bind fun c=>
(f90 ((c,()),())).bind fun d=>
(ru ((y.1.1,(),(),(),d.1.1,()),y.2.1,((),()),y.2.2.2.1,((),()),a.2.1,())).bind fun e=>
 bif e.1.2.2.2.2.2.1 then
 some (.inr (.inl (((),false,()),([]:List aT),((),()),())))
else
(aU e.2.2.2.2.2.1.length (1:Int)).bind fun f=>
(e.2.2.2.2.2.1[f]?).bind fun g=>
(bE g (0:Int) e.1.2.2.2.2.1).bind fun h=>
(f92 ((h,()),())).bind fun i=>
 bif(!i.1.2.1) then
 some (.inr (.inl (((),false,()),([]:List aT),((),()),())))
else
(cw 80 e.2.2.2.1 ([(aT.mk i.2.2.2.1.1 i.2.2.2.1.2.1 i.2.1 i.2.2.1)]:List aT)).bind fun j=>
(aU e.2.2.2.2.2.1.length (1:Int)).bind fun k=>
(e.2.2.2.2.2.1[k]?).bind fun l=>
(bE l e.1.2.2.2.2.1 (l.length:Int)).bind fun m=>
 some (.inl ((e.1.1,(),(),m,()),e.2.1,((),()),j,((),()),()))
else
 some (.inr (.inr ((y.1.1,(),(),()),y.2.1,((),()),y.2.2.2.1,((),()),())))
else
 some (.inr (.inr ((y.1.1,(),(),()),y.2.1,((),()),y.2.2.2.1,((),()),())))
noncomputable def xc:w8.J->Option (aF Ci):=br o'
theorem alf:aX Z (ap (codeOf Tryz.f49) 1 60) (bb w8 Ci xc):=bW EP (by kernel_rfl) (bd ahg aj) fun y=>by kernel_rfl
abbrev Sl:Shape:=⟨[aq 0,a8 2 2 0,a8 4 4 0],[bI 5000128 .pack 2 0,a7 2 [.own 5000128],bI 5000256 .pack 4 0,a7 4 [.own 5000256]],73⟩
abbrev R8:List aR:=[(.norm,⟨[a8 2 2 0,a8 4 4 0,aC 70],[bI 5000128 .pack 2 0,a7 2 [.own 5000128],bI 5000256 .pack 4 0,a7 4 [.own 5000256]],73⟩)]
noncomputable def tL(y:Sl.J):Option (aF R8):=
(f46 (((y.2.2.2.1,()),()),())).bind fun a=>
 bif(!(!a.1.1)) then
(f93 (((y.2.2.2.1,()),()),())).bind fun b=>
 some (((),(),(!(b.1.1==y.1.1)),()),y.2.1,((),()),y.2.2.2.1,((),()),())
else
 some (((),(),true,()),y.2.1,((),()),y.2.2.2.1,((),()),())
theorem aiY:aX Z (ap (codeOf Tryz.f49) 1 124) (bb Sl R8 tL):=c8 EP (by kernel_rfl) aj fun y=>by kernel_rfl
abbrev i49:Shape:=⟨[aq 0],[],73⟩
abbrev yj:Shape:=⟨[a8 2 2 0,aC 3],[bI 5000128 .pack 2 0,a7 2 [.own 5000128]],73⟩
noncomputable def f49(a:i49.J):Option yj.J:=
(xc ((a.1.1,(),(),a.1.1,()),([]:List aT),((),()),([]:List aT),((),()),())).bind fun b=>
(match b with
|.inl c=>
 some (((),c.1.2.1,()),c.2.1,((),()),())
|.inr d=>
(tL ((d.1.1,(),(),()),d.2.1,((),()),d.2.2.2.1,((),()),())).bind fun e=>
 bif e.1.2.2.1 then
 some (((),false,()),([]:List aT),((),()),())
else
 some (((),true,()),e.2.2.2.1,((),()),()))
noncomputable def _V:aK:=a6 ak Tryz.f49 i49 yj [] f49
theorem z49:aL Z 49 _V:=ba EP Tryz.func49 (by kernel_rfl) (bd alf (bd aiY aj)) (fun y=>by kernel_rfl) fun a=>by kernel_rfl
abbrev s8(s rest:F)(ps:List aT):w8.J:=((s,((),((),(rest,())))),(([]:List aT),(((),()),(ps,(((),()),())))))
abbrev aaO(s:F)(ps:List aT):aF Ci:=.inr ((s,((),((),()))),(([]:List aT),(((),()),(ps,(((),()),())))))
abbrev E9(ps:List aT):yj.J:=(((),(true,())),(ps,(((),()),())))
abbrev EN:yj.J:=(((),(false,())),(([]:List aT),(((),()),())))
def Nb(D:Option (List aT)):yj.J:=match D with|some ps=>E9 ps|none=>EN
theorem akQ(s:F):∀(m:Nat) (r:F) (ps:List aT),r.length<=m->m<=2000000->ps.length<=6->qD ps->
  xc (s8 s r ps)=some (.inl EN)\/∃bS:List aT,xc (s8 s r ps)=some (aaO s bS)/\qD bS/\bS.length<=6:=by
 intro m;induction m with
 |zero=>
  intro r ps hs _ hl ha;have:r=[]:=List.length_eq_zero_iff.1 (by omega)
  subst this;exact .inr ⟨ps,cx rfl,ha,hl⟩
 |succ m ih=>
  intro r ps hs hm hl ha;cases r with
  |nil=>exact .inr ⟨ps,cx rfl,ha,hl⟩
  |cons b r0=>
   have hne:((b::r0)==([]:F))=false:=rfl;generalize ef:b::r0=r at hs hne;by_cases bq:ps.length<=5
   ·have d:decide (((ps.length:Nat):Int)<=5)=true:=decide_eq_true (by omega)
    have c1:=mL 10 r (by omega) 1
    have c1:f89 ((r,((10:Int),((1:Int),()))),())=_:=c1;cases al:dv 10 r with
    |none=>
     have eg:splitN 10 1 r=[r]:=by unfold splitN;rw[al]
     rw[eg] at c1;have n0:=rl r (by unfold am;omega)
     have i0:aU ([r]:List F).length (0:Int)=some 0:=rfl;have fF:([r]:List F)[0]? =some r:=rfl;have d2:decide ((([r]:List F).length:Int)<2)=true:=rfl;refine .inl (cx ?_);simp only[o',hne,Bool.not_false,cond_true,d,c1,Option.bind_some,i0,fF,n0,ru,d2,Bool.not_true,cond_false]
    |some q=>
     obtain⟨bV,rest⟩:=q;have hlen:=(jN al).1;have hlen:r.length=bV.length+1+rest.length:=by rw[hlen];simp;omega
     have eg:splitN 10 1 r=[bV,rest]:=by unfold splitN;rw[al];rfl
     rw[eg] at c1;have n0:=rl bV (by unfold am;omega)
     have i0:aU ([bV,rest]:List F).length (0:Int)=some 0:=rfl;have i1:aU ([bV,rest]:List F).length (1:Int)=some 1:=rfl;have fF:([bV,rest]:List F)[0]? =some bV:=rfl;have eE:([bV,rest]:List F)[1]? =some rest:=rfl;have d2:decide ((([bV,rest]:List F).length:Int)<2)=false:=rfl;have hin:=o6 ((hM bV,((1:Int),((rest.length:Int),()))),());have hin:f91 ((hM bV,((1:Int),((rest.length:Int),()))),())=some ((within (hM bV) 1 (rest.length:Int),()),()):=hin;cases hw:within (hM bV) 1 (rest.length:Int) with
     |false=>
      rw[hw] at hin;refine .inl (cx ?_);simp only[o',hne,Bool.not_false,cond_true,d,c1,Option.bind_some,i0,fF,n0,ru,d2,i1,eE,hin]
     |true=>
      rw[hw] at hin;have hb:=ts hw;obtain⟨n,hn⟩:∃n:Nat,hM bV=(n:Int):=⟨(hM bV).toNat,by omega⟩
      rw[hn] at hin n0 hb;have s1:bE rest 0 ((n:Nat):Int)=some (rest.take n):=iK (by omega)
      have s2:bE rest ((n:Nat):Int) ((rest.length:Nat):Int)=some (rest.drop n):=hI (by omega)
      have atk:(rest.take n).length<=2000000:=by simp;omega
      obtain⟨D,g1,g2⟩:=aeZ (rest.take n) atk;cases D with
      |none=>
       have g1:f92 ((rest.take n,()),())=some NP:=g1;refine .inl (cx ?_);simp only[o',hne,Bool.not_false,cond_true,d,c1,Option.bind_some,i0,fF,n0,ru,d2,i1,eE,hin,Bool.not_true,cond_false,s1,g1]
      |some p=>
       have g1:f92 ((rest.take n,()),())=some (s5 p):=g1;obtain⟨i_,iZ,p3⟩:=(g2 p).1 rfl;have fw:cw 80 ps ([(aT.mk p.name p.aW p.bh p.bK)]:List aT)=some (ps++[p]):=ey (by decide) (by unfold am;simp;omega)
       have st:o' (s8 s r ps)=some (.inl (s8 s (rest.drop n) (ps++[p]))):=by
        simp only[o',hne,Bool.not_false,cond_true,d,c1,Option.bind_some,i0,fF,n0,ru,d2,i1,eE,hin,Bool.not_true,cond_false,s1,g1,fw,s2]
       rcases ih (rest.drop n) (ps++[p]) (by simp;omega) (by omega) (by simp;omega) (fun z hz=>by
        rcases List.mem_append.1 hz with hz|hz
        ·exact ha z hz
        ·rw[List.mem_singleton.1 hz];exact⟨i_,by rw[iZ];exact p3⟩) with e|⟨bS,e1,e2⟩
       ·exact .inl ((dL st).trans e)
       ·exact .inr ⟨bS,(dL st).trans e1,e2⟩
   ·have d:decide (((ps.length:Nat):Int)<=5)=false:=decide_eq_false (by omega)
    refine .inr ⟨ps,cx ?_,ha,hl⟩;simp only[o',hne,Bool.not_false,cond_true,d,cond_false]
theorem ahF{ps:List aT}(h:qD ps)(bq:ps.length<=5):(dV ps).length<=30000:=by
 have h1:=wC (f:=fun p=>fX (bO p)) (xs:=ps) (n:=5000) fun q al=>by
  have:=(h q al).2;have:=oT (bO q).length (by omega)
  show(fX (bO q)).length<=5000;unfold fX;simp;omega
 have e:(dV ps).length=(ps.flatMap fun p=>fX (bO p)).length:=rfl
 have cB:ps.length*5000<=6*5000:=Nat.mul_le_mul_right _ (by omega)
 omega
theorem akP(s:F):∀(bS ps:List aT),qD bS->ps.length+bS.length<=5->xc (s8 s (dV bS) ps)=some (aaO s (ps++bS)):=by
 intro bS;induction bS with
 |nil=>intro ps _ _;rw[List.append_nil];exact cx rfl
 |cons p bS ih=>
  intro ps h hl;obtain⟨h1,h2⟩:=h p List.mem_cons_self;simp only[List.length_cons] at hl;have hR:dV (p::bS)=fX (bO p)++dV bS:=F_ p bS;have gr:=P3 (bO p) (dV bS);have hlen:=ahF (ps:=p::bS) h (by simp;omega)
  rw[hR] at hlen ⊢;generalize hr:fX (bO p)++dV bS=r at gr hlen;have eg:splitN 10 1 r=[Lib.itoa ((bO p).length:Int),bO p++dV bS]:=by unfold splitN;rw[gr];rfl
  have hne:(r==([]:F))=false:=by
   have:=(jN gr).1;cases hx:r with
   |nil=>rw[hx] at this;simp at this
   |cons b r=>rfl
  have d:decide (((ps.length:Nat):Int)<=5)=true:=decide_eq_true (by omega)
  have c1:=mL 10 r (by omega) 1
  rw[eg] at c1;have c1:f89 ((r,((10:Int),((1:Int),()))),())=_:=c1;have axW:=oT (bO p).length (by omega)
  have n0:=rl (Lib.itoa ((bO p).length:Int)) (by unfold am;omega)
  rw[Ga _ (by omega)] at n0
  generalize Lib.itoa ((bO p).length:Int)=bV at c1 n0;have i0:aU ([bV,bO p++dV bS]:List F).length (0:Int)=some 0:=rfl;have i1:aU ([bV,bO p++dV bS]:List F).length (1:Int)=some 1:=rfl;have fF:([bV,bO p++dV bS]:List F)[0]? =some bV:=rfl;have eE:([bV,bO p++dV bS]:List F)[1]? =some (bO p++dV bS):=rfl;have d2:decide ((([bV,bO p++dV bS]:List F).length:Int)<2)=false:=rfl;have oj:1<=(bO p).length:=by rw[wL];simp only[List.length_append,List.length_cons];omega
  have hin:=o6 ((((bO p).length:Int),((1:Int),(((bO p++dV bS).length:Int),()))),());have hin:f91 ((((bO p).length:Int),((1:Int),(((bO p++dV bS).length:Int),()))),())=some ((true,()),()):=by
   rw[hin];have:within ((bO p).length:Int) 1 ((bO p++dV bS).length:Int)=true:=by
    unfold within;rw[decide_eq_true (by omega),decide_eq_true (by simp only[List.length_append];omega)]
    rfl
   show some ((within ((bO p).length:Int) 1 ((bO p++dV bS).length:Int),()),())=_;rw[this]
  have s1:bE (bO p++dV bS) 0 (((bO p).length:Nat):Int)=some (bO p):=by rw[iK (by simp),List.take_left' rfl]
  have s2:bE (bO p++dV bS) (((bO p).length:Nat):Int) (((bO p++dV bS).length:Nat):Int)=some (dV bS):=by rw[hI (by simp),List.drop_left' rfl]
  have g1:=Fe h1 h2;have fw:cw 80 ps ([(aT.mk p.name p.aW p.bh p.bK)]:List aT)=some (ps++[p]):=ey (by decide) (by unfold am;simp;omega)
  have st:o' (s8 s r ps)=some (.inl (s8 s (dV bS) (ps++[p]))):=by
   simp only[o',hne,Bool.not_false,cond_true,d,c1,Option.bind_some,i0,fF,n0,ru,d2,i1,eE,hin,Bool.not_true,cond_false,s1,g1,fw,s2]
  have:=ih (ps++[p]) (fun r hr=>h r (List.mem_cons_of_mem _ hr)) (by simp;omega)
  rw[List.append_assoc] at this;exact(dL st).trans this
theorem aeY(s:F)(hs:s.length<=2000000):∃D:Option (List aT),f49 ((s,()),())=some (Nb D)/\rQ D (u' s):=by
 have put:∀ps:List aT,u' s ps->f49 ((s,()),())=some (E9 ps):=by
  intro ps ⟨h1,h2,h3⟩;have hl:ps.length<=5:=(vR h1).2;obtain⟨hb,hv⟩:=wS h3 (by omega)
  have g:=akP s ps [] h3 (by simpa using hl)
  rw[h2] at g;have e:=QZ (((ps,()),()),()) hb hv;have e:f46 (((ps,()),()),())=some ((kG ps,()),()):=e;rw[h1] at e;have e2:=RY ps hb (vR h1).1;simp only[f49,g,List.nil_append,Option.bind_some,tL,e,Bool.not_true,Bool.not_false,cond_true,cond_false,e2,h2,beq_self_eq_true]
 have any:f49 ((s,()),())=some EN\/∃ps,f49 ((s,()),())=some (E9 ps)/\u' s ps:=by
  rcases akQ s s.length s [] (Nat.le_refl _) hs (by decide) (fun x hx=>by cases hx) with g|⟨bS,g,h2,h3⟩
  ·refine .inl ?_
   simp only[f49,g,Option.bind_some]
  ·obtain⟨hb,hv⟩:=wS h2 h3;have e:=QZ (((bS,()),()),()) hb hv;have e:f46 (((bS,()),()),())=some ((kG bS,()),()):=e;cases hr:kG bS with
   |false=>
    rw[hr] at e;refine .inl ?_
    simp only[f49,g,Option.bind_some,tL,e,Bool.not_false,Bool.not_true,cond_true,cond_false]
   |true=>
    rw[hr] at e;have e2:=RY bS hb (vR hr).1;cases he:dV bS==s with
    |false=>
     refine .inl ?_
     simp only[f49,g,Option.bind_some,tL,e,Bool.not_false,Bool.not_true,cond_true,cond_false,e2,he]
    |true=>
     refine .inr ⟨bS,?_,hr,eq_of_beq he,h2⟩;simp only[f49,g,Option.bind_some,tL,e,Bool.not_false,Bool.not_true,cond_true,cond_false,e2,he]
 rcases any with h|⟨ps,h,hr⟩
 ·refine⟨none,h,fun p=>⟨fun hp=>(by cases hp),fun hp=>?_⟩⟩
  have:=put p hp;rw[h] at this;simp only[Option.some.injEq,Prod.mk.injEq] at this;exact absurd this.1.2.1 (by decide)
 ·refine⟨some ps,h,fun q=>⟨fun hp=>by cases hp;exact hr,fun hp=>?_⟩⟩
  have:=put q hp;rw[h] at this;simp only[Option.some.injEq,Prod.mk.injEq] at this;rw[this.2.1]
noncomputable abbrev avw:bl:=[(16,_4),(17,Vi),(31,_0),(49,_V),(50,_U)]
theorem yZ:bc Z (bi ak avw):=bj ⟨asb,amn,z31,z49,ar5,⟨⟩⟩
abbrev Sv:Shape:=⟨[aq 0,a8 3 3 0,aC 4,a8 5 5 0,aC 6],[bI 5000192 .pack 3 0,a7 3 [.own 5000192],(5000320,.deep .pack,.cell 5 0),a7 5 [.own 5000320]],66⟩
abbrev Sg:List aR:=[(.norm,⟨[aq 0,a8 3 3 0,aC 4,a8 5 5 0,aC 32],[bI 5000192 .pack 3 0,a7 3 [.own 5000192],(5000320,.deep .pack,.cell 5 0),a7 5 [.own 5000320]],66⟩)]
noncomputable def B6(y:Sv.J):Option (aF Sg):=
(f16 (((y.2.2.2.1,()),(y.2.1,()),()),())).bind fun a=>
 bif(!(!a.1.1)) then
 some ((y.1.1,(),y.1.2.2.1,(),(!(y.1.2.2.2.2.1==y.1.2.2.1)),()),y.2.1,((),()),y.2.2.2.1,((),()),())
else
 some ((y.1.1,(),y.1.2.2.1,(),true,()),y.2.1,((),()),y.2.2.2.1,((),()),())
theorem ajH:aX Z (ap (codeOf Tryz.f10) 1 124) (bb Sv Sg B6):=c8 yZ (by kernel_rfl) aj fun y=>by kernel_rfl
abbrev Qg:Shape:=⟨[a8 3 3 0,aC 4,a8 5 5 0,ad 7,a8 9 9 0,aC 10],[bI 5000192 .pack 3 0,a7 3 [.own 5000192],(5000320,.deep .pack,.cell 5 0),a7 5 [.own 5000320],(5000576,.deep .pack,.cell 9 0),a7 9 [.own 5000576]],66⟩
abbrev PZ:List aR:=[(.norm,⟨[a8 5 5 0,ad 7,aC 57],[(5000320,.deep .pack,.cell 5 0),a7 5 [.own 5000320]],66⟩)]
noncomputable def Al(y:Qg.J):Option (aF PZ):=
(f16 (((y.2.2.2.2.2.1,()),(y.2.1,()),()),())).bind fun a=>
 bif(!(!a.1.1)) then
 some (((),y.1.2.2.2.1,(!(y.1.2.2.2.2.2.1==y.1.2.1)),()),y.2.2.2.1,((),()),())
else
 some (((),y.1.2.2.2.1,true,()),y.2.2.2.1,((),()),())
theorem afQ:aX Z (ap (codeOf Tryz.f10) 1 32764) (bb Qg PZ Al):=c8 yZ (by kernel_rfl) aj fun y=>by kernel_rfl
abbrev i10:Shape:=⟨[aq 0],[],66⟩
abbrev ZT:Shape:=⟨[aC 2],[],66⟩
noncomputable def f10(a:i10.J):Option ZT.J:=
 bif(decide ((a.1.1.length:Int)>(1048576:Int))) then
 some ((true,()),())
else
(f49 ((a.1.1,()),())).bind fun b=>
(f50 ((a.1.1,()),())).bind fun c=>
(B6 ((a.1.1,(),b.1.2.1,(),c.1.2.1,()),b.2.1,((),()),c.2.1,((),()),())).bind fun d=>
 bif d.1.2.2.2.2.1 then
 some ((false,()),())
else
(Dl ((((),()),(1:Int),()),d.2.2.2.1,())).bind fun e=>
(f31 (((e.2.1,()),(1:Int),()),())).bind fun f=>
 bif(decide (f.1.1<(0:Int))) then
 some ((false,()),())
else
 bif(f.1.1 !=e.1.2.1) then
 some ((false,()),())
else
(f50 ((d.1.1,()),())).bind fun g=>
(Al (((),d.1.2.2.1,(),e.1.2.1,(),g.1.2.1,()),d.2.1,((),()),e.2.1,((),()),g.2.1,((),()),())).bind fun h=>
 bif h.1.2.2.1 then
 some ((false,()),())
else
(f31 (((h.2.1,()),(1:Int),()),())).bind fun i=>
 bif(decide (i.1.1<(0:Int))) then
 some ((false,()),())
else
 bif(i.1.1 !=h.1.2.1) then
 some ((false,()),())
else
 some ((true,()),())
noncomputable def lK:aK:=a6 ak Tryz.f10 i10 ZT [] f10
theorem LY:aL Z 10 lK:=ba yZ Tryz.func10 (by kernel_rfl) (bd ajH (bd afQ aj)) (fun y=>by kernel_rfl) fun a=>by kernel_rfl
theorem aa3(s:F):f10 ((s,()),())=some ((true,()),()):=by
 simp only[f10];by_cases h:(s.length:Int)>1048576
 ·simp only[h,decide_true,cond_true]
 ·have hs:s.length<=1048576:=by omega
  obtain⟨D,e1,i_⟩:=aeY s (by omega)
  obtain⟨cW,e2,iZ⟩:=adx s (by omega)
  have ay:cW=D:=iZ.aoK i_;subst ay;have hk:∀ps:List aT,decide (eB 1 ps<0)=false:=fun ps=>decide_eq_false (by have:=wZ ps 1;omega)
  cases cW with
  |none=>
   have hb:ic ([]:List aT):=⟨Nat.zero_le _,fun e he=>by simp at he⟩
   simp only[Nb,EN] at e1;simp only[M6,EJ] at e2;simp only[h,decide_false,cond_false,e1,e2,Option.bind_some,B6,QY [] hb,Bool.not_true,Bool.not_false,cond_true,beq_self_eq_true,O5 [] hb,O7 [] hb,hk,AV,Al]
  |some ps=>
   obtain⟨r1,r2,iG⟩:=(i_ ps).1 rfl;obtain⟨hb,_⟩:=wS iG (by have:=(vR r1).2;omega)
   simp only[Nb,E9] at e1;simp only[M6,E4] at e2;simp only[h,decide_false,cond_false,e1,e2,Option.bind_some,B6,QY ps hb,Bool.not_true,Bool.not_false,cond_true,beq_self_eq_true,O5 ps hb,O7 ps hb,hk,AV,Al]
theorem pure_FnExactRootGet:LawOk lK [(false,[.str])]:=by
 rintro⟨⟨s,u⟩,b9⟩ ⟨h,_⟩;exact⟨((true,()),()),aa3 s,rfl⟩
end Go.Proofs
