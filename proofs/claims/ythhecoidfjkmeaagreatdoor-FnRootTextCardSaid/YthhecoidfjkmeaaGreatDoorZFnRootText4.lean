/- FnRootText: decoding a root inverts encoding. (part 5 of 7: JkKPuSa, JkKF277, JkKF257, JkKPuSb, JkKF121, JkKPuSc, JkKF256, JkKF220, JkKPuSd, JkKF122v0, JkKF219, JkKF173, JkKF69, JkKPuSe, JkKF63v0, JkKPl, JkKFH64, JkKF120, JkKF83, JkKF226, JkKF181, JkKPuPa, JkK) Conditions: none beyond the statement. -/
import Derived.Test.YthhecoidfjkmeaaGreatDoorZFnRootText3
import Derived.Tactics
import Derived.Deep.RegionLaw
import Derived.Shelf.Abstract
import Derived.Test.YthhecoidfjkmeaaGreatDoorProg
import Derived.KernelRfl
import Derived.Shelf.LaysM
import Derived.Shelf.Strconv.Itoa3
import Derived.Shelf.Strings.IndexAnyAll
import Derived.Laws.RangeAny
import Derived.Lib.OthersKept
import Derived.Shelf.Small.Utf8
import Derived.Laws.Runes
import Derived.Laws.Cover4
import Derived.WalkMore
import Derived.Shelf.RegionOpenPlain
set_option maxRecDepth 100000
set_option linter.unusedVariables false
set_option linter.unusedSimpArgs false
namespace Go.Proofs
open Go.Jk
theorem fB{J bq:Type}{g:J->Option (Sum J bq)}(st:Nat->J)(n:Nat){b:bq}(h:∀i,i<n->g (st i)=some (.inl (st (i+1))))(he:g (st n)=some (.inr b)):∀k i,i+k=n->br g (st i)=some b:=by
 intro k;induction k with
 |zero=>
  intro i hi;obtain rfl:i=n:=by omega
  exact cp he
 |succ k ih=>
  intro i hi;rw[dN (h i (by omega))]
  exact ih (i+1) (by omega)
theorem aks(k:IntKind)(x y:Int):h4 k x y=h4 k y x:=by unfold h4;rw[BitVec.or_comm]
def kH(x n:Int):Int:=h4 .u32 (x.fdiv (2^n.toNat)) (IntKind.u32.wrap (x*2^(32-n).toNat))
def eR(n:Int):Prop:=n=2\/n=6\/n=7\/n=11\/n=13\/n=17\/n=18\/n=19\/n=22\/n=25
theorem mS(x n:Int)(h:eR n):f278 ((x,(n,())),())=some ((kH x n,()),()):=by
 rcases h with rfl|rfl|rfl|rfl|rfl|rfl|rfl|rfl|rfl|rfl<;>rfl
theorem hN(x n:Int)(h:eR n):f171 ((x,(n,())),())=some ((kH x n,()),()):=by
 have a2:eF .u64 (IntKind.u64.wrap (IntKind.i64.wrap (0-2))) 31=30:=by decide
 have yd:eF .u64 (IntKind.u64.wrap (IntKind.i64.wrap (0-6))) 31=26:=by decide
 have yc:eF .u64 (IntKind.u64.wrap (IntKind.i64.wrap (0-7))) 31=25:=by decide
 have MZ:eF .u64 (IntKind.u64.wrap (IntKind.i64.wrap (0-11))) 31=21:=by decide
 have ayL:eF .u64 (IntKind.u64.wrap (IntKind.i64.wrap (0-13))) 31=19:=by decide
 have ayJ:eF .u64 (IntKind.u64.wrap (IntKind.i64.wrap (0-17))) 31=15:=by decide
 have ayI:eF .u64 (IntKind.u64.wrap (IntKind.i64.wrap (0-18))) 31=14:=by decide
 have ayH:eF .u64 (IntKind.u64.wrap (IntKind.i64.wrap (0-19))) 31=13:=by decide
 have ayG:eF .u64 (IntKind.u64.wrap (IntKind.i64.wrap (0-22))) 31=10:=by decide
 have ayF:eF .u64 (IntKind.u64.wrap (IntKind.i64.wrap (0-25))) 31=7:=by decide
 unfold kH;rw[aks];rcases h with rfl|rfl|rfl|rfl|rfl|rfl|rfl|rfl|rfl|rfl<;>simp only[f171,f217,a2,yd,yc,MZ,ayL,ayJ,ayI,ayH,ayG,ayF]<;>rfl
theorem o5{x:Int}(h0:0<=x)(h1:x<4294967296):IntKind.u32.wrap x=x:=by rw[IntKind.wrap_u32];omega
theorem FF{a:Nat}(h:a<4294967296):(BitVec.ofInt IntKind.u32.bits (a:Int)).toNat=a:=by
 rw[BitVec.ofInt_natCast,BitVec.toNat_ofNat];exact Nat.mod_eq_of_lt h
theorem AK{m y k:Nat}(hy:y<2^k)(h:m*2^k+y<4294967296):h4 .u32 ((m*2^k:Nat):Int) (y:Int)=((m*2^k+y:Nat):Int):=by
 unfold h4;rw[BitVec.toNat_or,FF (by omega),FF (by omega),<-Nat.shiftLeft_eq,<-Nat.shiftLeft_add_eq_or_of_lt hy,Nat.shiftLeft_eq,o5 (by omega) (by omega)]
abbrev ks(x:Int):Prop:=0<=x/\x<=255
def wd(a b c d:Int):Int:=a*16777216+b*65536+c*256+d
def gX(w c:Int):Int:=h4 .u32 (IntKind.u32.wrap (w*256)) (IntKind.u32.wrap c)
theorem yJ{w c:Nat}(hw:w<16777216)(hc:c<256):gX w c=((w*256+c:Nat):Int):=by
 unfold gX;rw[o5 (x:=(w:Int)*256) (by omega) (by omega),o5 (x:=(c:Int)) (by omega) (by omega)]
 exact AK (k:=8) (by omega) (by omega)
theorem pg{x:Int}(h:ks x):∃n:Nat,x=n/\n<256:=by
 obtain⟨n,rfl⟩:=Int.eq_ofNat_of_zero_le h.1;exact⟨n,rfl,by omega⟩
theorem alo{a b c d:Int}(ha:ks a)(hb:ks b)(hc:ks c)(aa:ks d):gX (gX (gX (gX 0 a) b) c) d=wd a b c d:=by
 obtain⟨a,rfl,rX⟩:=pg ha;obtain⟨b,rfl,rW⟩:=pg hb;obtain⟨c,rfl,x5⟩:=pg hc;obtain⟨d,rfl,x4⟩:=pg aa;have e4:gX 0 (a:Int)=((0*256+a:Nat):Int):=yJ (w:=0) (by omega) rX
 rw[e4,yJ (by omega) rW,yJ (by omega) x5,yJ (by omega) x4]
 unfold wd;omega
theorem aln{a b c d:Int}(ha:ks a)(hb:ks b)(hc:ks c)(aa:ks d):
  h4 .u32 (h4 .u32 (h4 .u32 (IntKind.u32.wrap (IntKind.u32.wrap a*16777216)) (IntKind.u32.wrap (IntKind.u32.wrap b*65536))) (IntKind.u32.wrap (IntKind.u32.wrap c*256))) (IntKind.u32.wrap d)=wd a b c d:=by
 obtain⟨a,rfl,rX⟩:=pg ha;obtain⟨b,rfl,rW⟩:=pg hb;obtain⟨c,rfl,x5⟩:=pg hc;obtain⟨d,rfl,x4⟩:=pg aa;have w:∀{x:Nat},x<256->IntKind.u32.wrap (x:Int)=x:=fun h=>o5 (by omega) (by omega)
 rw[w rX,w rW,w x5,w x4,o5 (x:=(a:Int)*16777216) (by omega) (by omega),o5 (x:=(b:Int)*65536) (by omega) (by omega),o5 (x:=(c:Int)*256) (by omega) (by omega)]
 have e1:h4 .u32 ((a:Int)*16777216) ((b:Int)*65536)=(((a*256+b)*2^16:Nat):Int):=by
  have:=AK (m:=a) (y:=b*65536) (k:=24) (by omega) (by omega)
  rw[show((a:Int)*16777216)=((a*2^24:Nat):Int) by omega,show((b:Int)*65536)=((b*65536:Nat):Int) by omega,this];omega
 have e2:h4 .u32 (((a*256+b)*2^16:Nat):Int) ((c:Int)*256)=((((a*256+b)*256+c)*2^8:Nat):Int):=by
  have:=AK (m:=a*256+b) (y:=c*256) (k:=16) (by omega) (by omega)
  rw[show((c:Int)*256)=((c*256:Nat):Int) by omega,this];omega
 have bC:=AK (m:=(a*256+b)*256+c) (y:=d) (k:=8) (by omega) (by omega)
 rw[e1,e2,bC];unfold wd;omega
def gb(b:List Int)(i:Nat):Int:=b.getD i 0
def LX(x:Int):Int:=dl .u32 (dl .u32 (kH x 7) (kH x 18)) (x.fdiv 8)
def LW(x:Int):Int:=dl .u32 (dl .u32 (kH x 17) (kH x 19)) (x.fdiv 1024)
def wJ(w:List Int)(i:Nat):Int:=IntKind.u32.wrap (IntKind.u32.wrap (IntKind.u32.wrap (gb w (i-16)+LX (gb w (i-15)))+gb w (i-7))+LW (gb w (i-2)))
def cu(b:List Int):Nat->List Int
 |0=>[]
 |i+1=>cu b i++[bif decide (i<16) then wd (gb b (4*i)) (gb b (4*i+1)) (gb b (4*i+2)) (gb b (4*i+3)) else wJ (cu b i) i]
theorem n3(b:List Int):∀i,(cu b i).length=i
 |0=>rfl
 |i+1=>by simp[cu,n3 b i]
theorem l_{b:List Int}{j:Nat}(h:j<b.length):b[j]? =some (gb b j):=by
 unfold gb;rw[List.getD_eq_getElem?_getD,List.getElem?_eq_getElem h];rfl
theorem wm{b:List Int}{j:Nat}(h:j<b.length):aO b (j:Int)=some (gb b j):=by rw[b4];exact l_ h
theorem Xa(x:Int):fh .u32 x 3=some (x.fdiv 8):=rfl
theorem V8(x:Int):fh .u32 x 10=some (x.fdiv 1024):=rfl
theorem ap7(x:Int):lD .u32 x 24=some (IntKind.u32.wrap (x*16777216)):=rfl
theorem ap8(x:Int):lD .u32 x 16=some (IntKind.u32.wrap (x*65536)):=rfl
theorem wF(x:Int):lD .u32 x 8=some (IntKind.u32.wrap (x*256)):=rfl
abbrev rO(b:List Int):Prop:=b.length=64/\∀x,x∈b->ks x
theorem rO.pY{b:List Int}(h:rO b){j:Nat}(hj:j<64):ks (gb b j):=by
 refine h.2 _ ?_
 have:=l_ (b:=b) (j:=j) (by rw[h.1];exact hj)
 exact List.mem_of_getElem? this
theorem k1{i:Nat}(h:i<=64)(j:Nat)(hj:j<=4):IntKind.i64.wrap (IntKind.i64.wrap ((4:Int)*(i:Int))+(j:Int))=((4*i+j:Nat):Int):=by
 rw[cS (n:=4*(i:Int)) (by omega) (by omega),cS (by omega) (by omega)];omega
theorem tU{i:Nat}(h:i<=64):IntKind.i64.wrap ((4:Int)*(i:Int))=((4*i:Nat):Int):=by
 rw[cS (n:=4*(i:Int)) (by omega) (by omega)];omega
theorem p2{i:Nat}{q:Int}(k:Nat)(e:q=(k:Int))(h:i<=64)(hk:k<=i):IntKind.i64.wrap ((i:Int)-q)=((i-k:Nat):Int):=by
 subst e;rw[cS (by omega) (by omega)];omega
theorem wp{i:Nat}(h:i<=64):IntKind.i64.wrap ((i:Int)+1)=((i+1:Nat):Int):=bU (by unfold ar;omega)
theorem ahu(b:List Int)(h:rO b):f276 ((b,()),())=some (((),()),(cu b 64,())):=by
 have aE:Ig ((b,((),((0:Int),()))),(([]:List Int),()))=some (((),()),(cu b 16,())):=by
  refine fB (g:=IM) (fun i=>((b,((),((i:Int),()))),(cu b i,()))) 16 (fun i hi=>?_) rfl 16 0 rfl
  have hl:decide ((i:Int)<16)=true:=by simp;omega
  have h0:=wm (b:=b) (j:=4*i) (by rw[h.1];omega)
  have h1:=wm (b:=b) (j:=4*i+1) (by rw[h.1];omega)
  have h2:=wm (b:=b) (j:=4*i+2) (by rw[h.1];omega)
  have h3:=wm (b:=b) (j:=4*i+3) (by rw[h.1];omega)
  have q1:IntKind.i64.wrap (((4*i:Nat):Int)+1)=((4*i+1:Nat):Int):=by have:=k1 (i:=i) (by omega) 1 (by omega);rwa[tU (by omega)] at this
  have q2:IntKind.i64.wrap (((4*i:Nat):Int)+2)=((4*i+2:Nat):Int):=by have:=k1 (i:=i) (by omega) 2 (by omega);rwa[tU (by omega)] at this
  have dF:IntKind.i64.wrap (((4*i:Nat):Int)+3)=((4*i+3:Nat):Int):=by have:=k1 (i:=i) (by omega) 3 (by omega);rwa[tU (by omega)] at this
  have hw:=aln (h.pY (j:=4*i) (by omega)) (h.pY (j:=4*i+1) (by omega)) (h.pY (j:=4*i+2) (by omega)) (h.pY (j:=4*i+3) (by omega))
  have aa:decide (i<16)=true:=by simpa using hi
  simp only[IM,hl,cond_true,tU (i:=i) (by omega),q1,q2,dF,h0,h1,h2,h3,Option.bind_some,ap7,ap8,wF,hw,wp (i:=i) (by omega)]
  rw[dh (by decide) (by rw[n3];unfold ar;simp;omega)]
  simp only[Option.bind_some,cu,aa,cond_true]
 have aF:GI (((),((16:Int),())),(cu b 16,()))=some (((),()),(cu b 64,())):=by
  refine fB (g:=G1) (fun i=>(((),(((16+i:Nat):Int),())),(cu b (16+i),()))) 48 (fun i hi=>?_) rfl 48 0 rfl
  have hl:decide (((16+i:Nat):Int)<64)=true:=by simp;omega
  have hlen:=n3 b (16+i);have aa:decide (16+i<16)=false:=by simp
  have t7:=fun x=>mS x 7 (by simp[eR]);have t18:=fun x=>mS x 18 (by simp[eR])
  have t17:=fun x=>mS x 17 (by simp[eR]);have t19:=fun x=>mS x 19 (by simp[eR])
  have i15:be (cu b (16+i)).length (IntKind.i64.wrap (((16+i:Nat):Int)-15))=some (16+i-15):=by rw[p2 (i:=16+i) (q:=15) 15 rfl (by omega) (by omega)];exact ft (by rw[hlen];omega)
  have i2:be (cu b (16+i)).length (IntKind.i64.wrap (((16+i:Nat):Int)-2))=some (16+i-2):=by rw[p2 (i:=16+i) (q:=2) 2 rfl (by omega) (by omega)];exact ft (by rw[hlen];omega)
  have i16:be (cu b (16+i)).length (IntKind.i64.wrap (((16+i:Nat):Int)-16))=some (16+i-16):=by rw[p2 (i:=16+i) (q:=16) 16 rfl (by omega) (by omega)];exact ft (by rw[hlen];omega)
  have i7:be (cu b (16+i)).length (IntKind.i64.wrap (((16+i:Nat):Int)-7))=some (16+i-7):=by rw[p2 (i:=16+i) (q:=7) 7 rfl (by omega) (by omega)];exact ft (by rw[hlen];omega)
  have g15:=l_ (b:=cu b (16+i)) (j:=16+i-15) (by rw[hlen];omega)
  have g2:=l_ (b:=cu b (16+i)) (j:=16+i-2) (by rw[hlen];omega)
  have g16:=l_ (b:=cu b (16+i)) (j:=16+i-16) (by rw[hlen];omega)
  have g7:=l_ (b:=cu b (16+i)) (j:=16+i-7) (by rw[hlen];omega)
  simp only[G1,hl,cond_true,i15,i2,i16,i7,g15,g2,g16,g7,Option.bind_some,t7,t18,t17,t19,Xa,V8,wp (i:=16+i) (by omega)]
  rw[dh (by decide) (by rw[hlen];unfold ar;simp;omega)]
  have hs:cu b (16+(i+1))=cu b (16+i)++[wJ (cu b (16+i)) (16+i)]:=by
   show cu b ((16+i)+1)=_;simp only[cu,aa,cond_false]
  simp only[Option.bind_some,hs,wJ,LX,LW];rfl
 have hm:jY 4 (0:Int) (64:Int) (0:Int)=some ([]:List Int):=rfl;simp only[f276,hm,Option.bind_some,aE,aF]
abbrev i277:Shape:=⟨[],[],2⟩
abbrev Xp:Shape:=⟨[ba 0 3000000],[a' 3000000 .u32 0 0],2⟩
noncomputable def f277(a:i277.J):Option Xp.J:=
 some (((),()),([(1116352408:Int),(1899447441:Int),(3049323471:Int),(3921009573:Int),(961987163:Int),(1508970993:Int),(2453635748:Int),(2870763221:Int),(3624381080:Int),(310598401:Int),(607225278:Int),(1426881987:Int),(1925078388:Int),(2162078206:Int),(2614888103:Int),(3248222580:Int),(3835390401:Int),(4022224774:Int),(264347078:Int),(604807628:Int),(770255983:Int),(1249150122:Int),(1555081692:Int),(1996064986:Int),(2554220882:Int),(2821834349:Int),(2952996808:Int),(3210313671:Int),(3336571891:Int),(3584528711:Int),(113926993:Int),(338241895:Int),(666307205:Int),(773529912:Int),(1294757372:Int),(1396182291:Int),(1695183700:Int),(1986661051:Int),(2177026350:Int),(2456956037:Int),(2730485921:Int),(2820302411:Int),(3259730800:Int),(3345764771:Int),(3516065817:Int),(3600352804:Int),(4094571909:Int),(275423344:Int),(430227734:Int),(506948616:Int),(659060556:Int),(883997877:Int),(958139571:Int),(1322822218:Int),(1537002063:Int),(1747873779:Int),(1955562222:Int),(2024104815:Int),(2227730452:Int),(2361852424:Int),(2428436474:Int),(2756734187:Int),(3204031479:Int),(3329325298:Int)]:List Int),())
noncomputable def ZK:aD:=aG ad Tryz.f277 i277 Xp [] f277
theorem ark:aA O 277 ZK:=aK g0 Tryz.func277 (by kernel_rfl) ae (fun y=>by kernel_rfl) fun a=>by kernel_rfl
noncomputable abbrev atO:a_:=[(276,ZL),(277,ZK),(278,K9)]
theorem Dm:aQ O (aW ad atO):=aV ⟨arl,ark,WU,⟨⟩⟩
abbrev yk:Shape:=⟨[aI 0 .u32,ba 5 3000320,ba 6 3000384,ba 7 3000448,ag 8,(11,.an (.d (.int .u32))),(12,.an (.d (.int .u32))),(13,.an (.d (.int .u32))),ag 14],[a' 3000320 .u32 5 0,a' 3000384 .u32 6 0,a' 3000448 .u32 7 0],155⟩
abbrev EK:List aP:=[(.exit 2,⟨[aI 0 .u32,ba 5 3000320,ba 6 3000384,ba 7 3000448,ag 8,(11,.an (.d (.int .u32))),(12,.an (.d (.int .u32))),(13,.an (.d (.int .u32)))],[a' 3000320 .u32 5 0,a' 3000384 .u32 6 0,a' 3000448 .u32 7 0],155⟩)]
noncomputable def Om(y:yk.J):bG yk EK:=
 bif(decide (y.1.2.2.2.2.2.2.2.2.1>(0:Int))) then
(be y.2.2.2.1.length (IntKind.i64.wrap (y.1.2.2.2.2.2.2.2.2.1-(1:Int)))).bind fun a=>
(y.2.2.2.1[a]?).bind fun b=>
(be y.2.2.2.1.length y.1.2.2.2.2.2.2.2.2.1).bind fun c=>
((y.2.2.2.1[c]?).bind fun q=>some b).bind fun d=>
 some (.inl ((y.1.1,(),(),(),y.1.2.2.2.2.1,y.1.2.2.2.2.2.1,y.1.2.2.2.2.2.2.1,y.1.2.2.2.2.2.2.2.1,(IntKind.i64.wrap (y.1.2.2.2.2.2.2.2.2.1-(1:Int))),()),y.2.1,y.2.2.1,(y.2.2.2.1.set c d),()))
else
 some (.inr ((y.1.1,(),(),(),y.1.2.2.2.2.1,y.1.2.2.2.2.2.1,y.1.2.2.2.2.2.2.1,y.1.2.2.2.2.2.2.2.1,()),y.2.1,y.2.2.1,y.2.2.2.1,()))
noncomputable def EM:yk.J->Option (aB EK):=br Om
theorem ae2:aS O (am (c4 (am (codeOf Tryz.f257) 1 250)) 500 1025274) (aU yk EK EM):=bH Dm (by kernel_rfl) ae fun y=>by kernel_rfl
abbrev zk:Shape:=⟨[aI 0 .u32,ba 5 3000320,ba 6 3000384,ba 7 3000448,ag 8],[a' 3000320 .u32 5 0,a' 3000384 .u32 6 0,a' 3000448 .u32 7 0],155⟩
abbrev Gh:List aP:=[(.exit 0,⟨[aI 0 .u32,ba 7 3000448],[a' 3000448 .u32 7 0],155⟩)]
noncomputable def G2(y:zk.J):bG zk Gh:=
 bif(decide (y.1.2.2.2.2.1<(64:Int))) then
(be y.2.2.2.1.length (4:Int)).bind fun a=>
(y.2.2.2.1[a]?).bind fun b=>
(f278 ((b,(6:Int),()),())).bind fun c=>
(be y.2.2.2.1.length (4:Int)).bind fun d=>
(y.2.2.2.1[d]?).bind fun e=>
(f278 ((e,(11:Int),()),())).bind fun f=>
(be y.2.2.2.1.length (4:Int)).bind fun g=>
(y.2.2.2.1[g]?).bind fun h=>
(f278 ((h,(25:Int),()),())).bind fun i=>
(be y.2.2.2.1.length (4:Int)).bind fun j=>
(y.2.2.2.1[j]?).bind fun k=>
(be y.2.2.2.1.length (5:Int)).bind fun l=>
(y.2.2.2.1[l]?).bind fun m=>
(be y.2.2.2.1.length (4:Int)).bind fun n=>
(y.2.2.2.1[n]?).bind fun D=>
(be y.2.2.2.1.length (6:Int)).bind fun p=>
(y.2.2.2.1[p]?).bind fun r=>
(be y.2.2.2.1.length (7:Int)).bind fun s=>
(y.2.2.2.1[s]?).bind fun t=>
(be y.2.2.1.length y.1.2.2.2.2.1).bind fun u=>
(y.2.2.1[u]?).bind fun v=>
(be y.2.1.length y.1.2.2.2.2.1).bind fun w=>
(y.2.1[w]?).bind fun x=>
(be y.2.2.2.1.length (0:Int)).bind fun z=>
(y.2.2.2.1[z]?).bind fun A=>
(f278 ((A,(2:Int),()),())).bind fun bq=>
(be y.2.2.2.1.length (0:Int)).bind fun C=>
(y.2.2.2.1[C]?).bind fun bh=>
(f278 ((bh,(13:Int),()),())).bind fun E=>
(be y.2.2.2.1.length (0:Int)).bind fun aT=>
(y.2.2.2.1[aT]?).bind fun G=>
(f278 ((G,(22:Int),()),())).bind fun H=>
(be y.2.2.2.1.length (0:Int)).bind fun I=>
(y.2.2.2.1[I]?).bind fun e6=>
(be y.2.2.2.1.length (1:Int)).bind fun K=>
(y.2.2.2.1[K]?).bind fun L=>
(be y.2.2.2.1.length (0:Int)).bind fun fb=>
(y.2.2.2.1[fb]?).bind fun N=>
(be y.2.2.2.1.length (2:Int)).bind fun aBb=>
(y.2.2.2.1[aBb]?).bind fun P=>
(be y.2.2.2.1.length (1:Int)).bind fun Q=>
(y.2.2.2.1[Q]?).bind fun R=>
(be y.2.2.2.1.length (2:Int)).bind fun S=>
(y.2.2.2.1[S]?).bind fun T=>
(EM ((y.1.1,(),(),(),y.1.2.2.2.2.1,(IntKind.u32.wrap ((IntKind.u32.wrap ((IntKind.u32.wrap ((IntKind.u32.wrap (t+(dl .u32 (dl .u32 c.1.1 f.1.1) i.1.1)))+(dl .u32 (eF .u32 k m) (eF .u32 (dl .u32 4294967295 D) r))))+v))+x)),(dl .u32 (dl .u32 bq.1.1 E.1.1) H.1.1),(dl .u32 (dl .u32 (eF .u32 e6 L) (eF .u32 N P)) (eF .u32 R T)),(7:Int),()),y.2.1,y.2.2.1,y.2.2.2.1,())).bind fun d'=>
(be d'.2.2.2.1.length (4:Int)).bind fun V=>
(d'.2.2.2.1[V]?).bind fun W=>
(be d'.2.2.2.1.length (4:Int)).bind fun X=>
((d'.2.2.2.1[X]?).bind fun q=>some (IntKind.u32.wrap (W+d'.1.2.2.2.2.2.1))).bind fun N5=>
(be (d'.2.2.2.1.set X N5).length (0:Int)).bind fun a0=>
(((d'.2.2.2.1.set X N5)[a0]?).bind fun q=>some (IntKind.u32.wrap ((IntKind.u32.wrap (d'.1.2.2.2.2.2.1+d'.1.2.2.2.2.2.2.1))+d'.1.2.2.2.2.2.2.2.1))).bind fun a1=>
 some (.inl ((d'.1.1,(),(),(),(IntKind.i64.wrap (d'.1.2.2.2.2.1+(1:Int))),()),d'.2.1,d'.2.2.1,((d'.2.2.2.1.set X N5).set a0 a1),()))
else
 some (.inr ((y.1.1,(),()),y.2.2.2.1,()))
noncomputable def GJ:zk.J->Option (aB Gh):=br G2
theorem aj1:aS O (am (codeOf Tryz.f257) 1 250) (aU zk Gh GJ):=bH Dm (by kernel_rfl) (a7 ae2 ae) fun y=>by kernel_rfl
abbrev yN:Shape:=⟨[aI 0 .u32,ba 7 3000448,ba 15 3000960,ag 16],[a' 3000448 .u32 7 0,a' 3000960 .u32 15 0],155⟩
abbrev Fm:List aP:=[(.exit 4,⟨[ba 15 3000960],[a' 3000960 .u32 15 0],155⟩)]
noncomputable def QI(y:yN.J):bG yN Fm:=
 bif(decide (y.1.2.2.2.1<(8:Int))) then
(aO y.1.1 y.1.2.2.2.1).bind fun a=>
(be y.2.1.length y.1.2.2.2.1).bind fun b=>
(y.2.1[b]?).bind fun c=>
(b9 4 y.2.2.1 ([(IntKind.u32.wrap (a+c))]:List Int)).bind fun d=>
 some (.inl ((y.1.1,(),(),(IntKind.i64.wrap (y.1.2.2.2.1+(1:Int))),()),y.2.1,d,()))
else
 some (.inr (((),()),y.2.2.1,()))
noncomputable def FL:yN.J->Option (aB Fm):=br QI
theorem ah6:aS O (am (codeOf Tryz.f257) 1 1018) (aU yN Fm FL):=bH Dm (by kernel_rfl) ae fun y=>by kernel_rfl
abbrev i257:Shape:=⟨[aI 0 .u32,aI 1 .u8],[],155⟩
abbrev Xw:Shape:=⟨[ba 4 3000256],[a' 3000256 .u32 4 0],155⟩
noncomputable def f257(a:i257.J):Option Xw.J:=
(f276 ((a.1.2.1,()),())).bind fun b=>
(f277 ((),())).bind fun c=>
(b9 4 ([]:List Int) a.1.1).bind fun d=>
(GJ ((a.1.1,(),(),(),(0:Int),()),b.2.1,c.2.1,d,())).bind fun e=>
(FL ((e.1.1,(),(),(0:Int),()),e.2.1,([]:List Int),())).bind fun f=>
 some (((),()),f.2.1,())
noncomputable def ZS:aD:=aG ad Tryz.f257 i257 Xw [] f257
theorem art:aA O 257 ZS:=aK Dm Tryz.func257 (by kernel_rfl) (a7 aj1 (a7 ah6 ae)) (fun y=>by kernel_rfl) fun a=>by kernel_rfl
structure cn where
 (a b c d e f g h:Int)
def cn.list(s:cn):List Int:=[s.a,s.b,s.c,s.d,s.e,s.f,s.g,s.h]
def MX(e:Int):Int:=dl .u32 (dl .u32 (kH e 6) (kH e 11)) (kH e 25)
def MY(a:Int):Int:=dl .u32 (dl .u32 (kH a 2) (kH a 13)) (kH a 22)
def MW(e f g:Int):Int:=dl .u32 (eF .u32 e f) (eF .u32 (dl .u32 4294967295 e) g)
def L2(a b c:Int):Int:=dl .u32 (dl .u32 (eF .u32 a b) (eF .u32 a c)) (eF .u32 b c)
def DA(s:cn)(k w:Int):Int:=IntKind.u32.wrap (IntKind.u32.wrap (IntKind.u32.wrap (IntKind.u32.wrap (s.h+MX s.e)+MW s.e s.f s.g)+k)+w)
def wG(k w:Int)(s:cn):cn:=⟨IntKind.u32.wrap (DA s k w+IntKind.u32.wrap (MY s.a+L2 s.a s.b s.c)),s.a,s.b,s.c,IntKind.u32.wrap (s.d+DA s k w),s.e,s.f,s.g⟩
def ms(h:cn)(w:List Int):Nat->cn
 |0=>h
 |i+1=>wG (gb iF i) (gb w i) (ms h w i)
def Dd(h s:cn):cn:=⟨IntKind.u32.wrap (h.a+s.a),IntKind.u32.wrap (h.b+s.b),IntKind.u32.wrap (h.c+s.c),IntKind.u32.wrap (h.d+s.d),IntKind.u32.wrap (h.e+s.e),IntKind.u32.wrap (h.f+s.f),IntKind.u32.wrap (h.g+s.g),IntKind.u32.wrap (h.h+s.h)⟩
def wW(h:cn)(b:List Int):cn:=Dd h (ms h (cu b 64) 64)
theorem alm(x y z:Int):IntKind.u32.wrap (IntKind.u32.wrap (x+y)+z)=IntKind.u32.wrap (x+IntKind.u32.wrap (y+z)):=by
 simp only[IntKind.wrap_u32];omega
theorem cn.i0(s:cn):be s.list.length 0=some 0:=rfl
theorem cn.i1(s:cn):be s.list.length 1=some 1:=rfl
theorem cn.i2(s:cn):be s.list.length 2=some 2:=rfl
theorem cn.i4(s:cn):be s.list.length 4=some 4:=rfl
theorem cn.i5(s:cn):be s.list.length 5=some 5:=rfl
theorem cn.i6(s:cn):be s.list.length 6=some 6:=rfl
theorem cn.i7(s:cn):be s.list.length 7=some 7:=rfl
theorem cn.g0(s:cn):s.list[0]? =some s.a:=rfl
theorem cn.g1(s:cn):s.list[1]? =some s.b:=rfl
theorem cn.g2(s:cn):s.list[2]? =some s.c:=rfl
theorem cn.g4(s:cn):s.list[4]? =some s.e:=rfl
theorem cn.g5(s:cn):s.list[5]? =some s.f:=rfl
theorem cn.g6(s:cn):s.list[6]? =some s.g:=rfl
theorem cn.g7(s:cn):s.list[7]? =some s.h:=rfl
def gv(s:cn):Nat->List Int
 |0=>s.list
 |1=>[s.a,s.b,s.c,s.d,s.e,s.f,s.g,s.g]
 |2=>[s.a,s.b,s.c,s.d,s.e,s.f,s.f,s.g]
 |3=>[s.a,s.b,s.c,s.d,s.e,s.e,s.f,s.g]
 |4=>[s.a,s.b,s.c,s.d,s.d,s.e,s.f,s.g]
 |5=>[s.a,s.b,s.c,s.c,s.d,s.e,s.f,s.g]
 |6=>[s.a,s.b,s.b,s.c,s.d,s.e,s.f,s.g]
 |_=>[s.a,s.a,s.b,s.c,s.d,s.e,s.f,s.g]
theorem H4:iF.length=64:=by decide
theorem ahv(h:cn)(b:List Int)(hb:rO b):f257 ((h.list,(b,())),())=some (((),()),((wW h b).list,())):=by
 have lU:=ahu b hb;have t2:=fun x=>mS x 2 (by simp[eR]);have t6:=fun x=>mS x 6 (by simp[eR]);have t11:=fun x=>mS x 11 (by simp[eR])
 have t13:=fun x=>mS x 13 (by simp[eR]);have t22:=fun x=>mS x 22 (by simp[eR]);have t25:=fun x=>mS x 25 (by simp[eR])
 have gh:∀(q:List Int) (i h9 iM p3:Int) (w:List Int) (s:cn),EM ((q,((),((),((),(i,(h9,(iM,(p3,((7:Int),()))))))))),(w,(iF,(s.list,()))))=
   some ((q,((),((),((),(i,(h9,(iM,(p3,())))))))),(w,(iF,(([s.a,s.a,s.b,s.c,s.d,s.e,s.f,s.g]:List Int),())))):=by
  intro q i h9 iM p3 w s;refine fB (g:=Om) (fun j=>((q,((),((),((),(i,(h9,(iM,(p3,(((7-j:Nat):Int),()))))))))),(w,(iF,(gv s j,()))))) 7 (fun j hj=>?_) rfl 7 0 rfl
  have:j=0\/j=1\/j=2\/j=3\/j=4\/j=5\/j=6:=by omega
  rcases this with rfl|rfl|rfl|rfl|rfl|rfl|rfl<;>rfl
 have bT:f277 ((),())=some (((),()),(iF,())):=rfl;have hc:b9 4 ([]:List Int) h.list=some h.list:=rfl;have aE:GJ ((h.list,((),((),((),((0:Int),()))))),(cu b 64,(iF,(h.list,()))))=some ((h.list,((),())),((ms h (cu b 64) 64).list,())):=by
  refine fB (g:=G2) (fun i=>((h.list,((),((),((),((i:Int),()))))),(cu b 64,(iF,((ms h (cu b 64) i).list,()))))) 64 (fun i hi=>?_) rfl 64 0 rfl
  have hl:decide ((i:Int)<64)=true:=by simp;omega
  have i1:be iF.length (i:Int)=some i:=ft (by rw[H4];exact hi)
  have g1:=l_ (b:=iF) (j:=i) (by rw[H4];exact hi)
  have i2:be (cu b 64).length (i:Int)=some i:=ft (by rw[n3];exact hi)
  have g2:=l_ (b:=cu b 64) (j:=i) (by rw[n3];exact hi)
  have hr:ms h (cu b 64) (i+1)=wG (gb iF i) (gb (cu b 64) i) (ms h (cu b 64) i):=rfl;generalize ms h (cu b 64) i=s at hr ⊢;simp only[G2,hl,cond_true,cn.i0,cn.i1,cn.i2,cn.i4,cn.i5,cn.i6,cn.i7,cn.g0,cn.g1,cn.g2,cn.g4,cn.g5,cn.g6,cn.g7,i1,g1,i2,g2,Option.bind_some,t2,t6,t11,t13,t22,t25,gh,wp (i:=i) (by omega),hr]
  have e:∀x y:Int,be ([s.a,s.a,s.b,s.c,s.d,s.e,s.f,s.g]:List Int).length 4=some 4/\([s.a,s.a,s.b,s.c,s.d,s.e,s.f,s.g]:List Int)[4]? =some s.d/\
   be (([s.a,s.a,s.b,s.c,s.d,s.e,s.f,s.g]:List Int).set 4 x).length 0=some 0/\(([s.a,s.a,s.b,s.c,s.d,s.e,s.f,s.g]:List Int).set 4 x)[0]? =some s.a:=fun x y=>⟨rfl,rfl,rfl,rfl⟩
  simp only[(e 0 0).1,(e 0 0).2.1,(e _ 0).2.2.1,(e _ 0).2.2.2,Option.bind_some,wG,DA,MX,MY,MW,L2,alm];rfl
 have aF:FL ((h.list,((),((),((0:Int),())))),((ms h (cu b 64) 64).list,(([]:List Int),())))=some (((),()),((wW h b).list,())):=by
  unfold wW;generalize ms h (cu b 64) 64=s;refine fB (g:=QI) (fun i=>((h.list,((),((),((i:Int),())))),(s.list,((Dd h s).list.take i,())))) 8 (fun i hi=>?_) rfl 8 0 rfl
  have:i=0\/i=1\/i=2\/i=3\/i=4\/i=5\/i=6\/i=7:=by omega
  rcases this with rfl|rfl|rfl|rfl|rfl|rfl|rfl|rfl<;>rfl
 simp only[f257,lU,bT,hc,Option.bind_some,aE,aF]
noncomputable abbrev auV:a_:=[(171,_t)]
theorem tQ:aQ O (aW ad auV):=aV ⟨z171,⟨⟩⟩
abbrev yy:Shape:=⟨[aI 1 .u8,eG 2 2 .u32,eG 4 4 .u32,eG 5 5 .u32,ag 6,ag 27,aI 36 .u8,ag 37,ag 38],[(2,.row .u32,.same),(4,.row .u32,.same),(5,.row .u32,.same)],208⟩
abbrev E3:List aP:=[(.exit 2,⟨[aI 1 .u8,eG 2 2 .u32,eG 4 4 .u32,eG 5 5 .u32,ag 27],[(2,.row .u32,.same),(4,.row .u32,.same),(5,.row .u32,.same)],208⟩)]
noncomputable def qh(y:yy.J):bG yy E3:=
 bif(decide (y.1.2.2.2.2.2.2.2.2.1<y.1.2.2.2.2.2.2.2.1)) then
(aO y.1.2.2.2.2.2.2.1 y.1.2.2.2.2.2.2.2.2.1).bind fun a=>
((long 64 y.2.2.2.1).bind fun q=>be q.length y.1.2.2.2.2.1).bind fun b=>
(y.2.2.2.1[b]?).bind fun c=>
(lD .u32 c (8:Int)).bind fun d=>
((long 64 y.2.2.2.1).bind fun q=>be q.length y.1.2.2.2.2.1).bind fun e=>
((y.2.2.2.1[e]?).bind fun q=>some (h4 .u32 d (IntKind.u32.wrap a))).bind fun f=>
 some (.inl ((y.1.1,(),(),(),y.1.2.2.2.2.1,y.1.2.2.2.2.2.1,y.1.2.2.2.2.2.2.1,y.1.2.2.2.2.2.2.2.1,(IntKind.i64.wrap (y.1.2.2.2.2.2.2.2.2.1+(1:Int))),()),y.2.1,y.2.2.1,(y.2.2.2.1.set e f),()))
else
 some (.inr ((y.1.1,(),(),(),y.1.2.2.2.2.2.1,()),y.2.1,y.2.2.1,y.2.2.2.1,()))
noncomputable def E6:yy.J->Option (aB E3):=br qh
theorem agK:aS O (am (c4 (am (codeOf Tryz.f121) 1 58)) 116 14950) (aU yy E3 E6):=bH tQ (by kernel_rfl) ae fun y=>by kernel_rfl
abbrev AC:Shape:=⟨[aI 1 .u8,eG 2 2 .u32,eG 4 4 .u32,eG 5 5 .u32,ag 27],[(2,.row .u32,.same),(4,.row .u32,.same),(5,.row .u32,.same)],208⟩
abbrev HX:List aP:=[(.exit 0,⟨[eG 2 2 .u32,eG 4 4 .u32,eG 5 5 .u32],[(2,.row .u32,.same),(4,.row .u32,.same),(5,.row .u32,.same)],208⟩)]
noncomputable def IV(y:AC.J):bG AC HX:=
 bif(decide (y.1.2.2.2.2.1<(16:Int))) then
(bm y.1.1 (IntKind.i64.wrap ((4:Int)*y.1.2.2.2.2.1)) (IntKind.i64.wrap ((IntKind.i64.wrap ((4:Int)*y.1.2.2.2.2.1))+(4:Int)))).bind fun a=>
(E6 ((y.1.1,(),(),(),y.1.2.2.2.2.1,y.1.2.2.2.2.1,a,(a.length:Int),(0:Int),()),y.2.1,y.2.2.1,y.2.2.2.1,())).bind fun b=>
 some (.inl ((b.1.1,(),(),(),(IntKind.i64.wrap (b.1.2.2.2.2.1+(1:Int))),()),b.2.1,b.2.2.1,b.2.2.2.1,()))
else
 some (.inr (((),(),(),()),y.2.1,y.2.2.1,y.2.2.2.1,()))
noncomputable def IA:AC.J->Option (aB HX):=br IV
theorem amB:aS O (am (codeOf Tryz.f121) 1 58) (aU AC HX IA):=bH tQ (by kernel_rfl) (a7 agK ae) fun y=>by kernel_rfl
abbrev zv:Shape:=⟨[eG 2 2 .u32,eG 4 4 .u32,eG 5 5 .u32,ag 9],[(2,.row .u32,.same),(4,.row .u32,.same),(5,.row .u32,.same)],208⟩
abbrev Gq:List aP:=[(.exit 4,⟨[eG 2 2 .u32,eG 4 4 .u32,eG 5 5 .u32],[(2,.row .u32,.same),(4,.row .u32,.same),(5,.row .u32,.same)],208⟩)]
noncomputable def G5(y:zv.J):bG zv Gq:=
 bif(decide (y.1.2.2.2.1<(64:Int))) then
((long 64 y.2.2.2.1).bind fun q=>be q.length (IntKind.i64.wrap (y.1.2.2.2.1-(15:Int)))).bind fun a=>
(y.2.2.2.1[a]?).bind fun b=>
(f171 ((b,(7:Int),()),())).bind fun c=>
((long 64 y.2.2.2.1).bind fun q=>be q.length (IntKind.i64.wrap (y.1.2.2.2.1-(15:Int)))).bind fun d=>
(y.2.2.2.1[d]?).bind fun e=>
(f171 ((e,(18:Int),()),())).bind fun f=>
((long 64 y.2.2.2.1).bind fun q=>be q.length (IntKind.i64.wrap (y.1.2.2.2.1-(15:Int)))).bind fun g=>
(y.2.2.2.1[g]?).bind fun h=>
(fh .u32 h (3:Int)).bind fun i=>
((long 64 y.2.2.2.1).bind fun q=>be q.length (IntKind.i64.wrap (y.1.2.2.2.1-(2:Int)))).bind fun j=>
(y.2.2.2.1[j]?).bind fun k=>
(f171 ((k,(17:Int),()),())).bind fun l=>
((long 64 y.2.2.2.1).bind fun q=>be q.length (IntKind.i64.wrap (y.1.2.2.2.1-(2:Int)))).bind fun m=>
(y.2.2.2.1[m]?).bind fun n=>
(f171 ((n,(19:Int),()),())).bind fun D=>
((long 64 y.2.2.2.1).bind fun q=>be q.length (IntKind.i64.wrap (y.1.2.2.2.1-(2:Int)))).bind fun p=>
(y.2.2.2.1[p]?).bind fun r=>
(fh .u32 r (10:Int)).bind fun s=>
((long 64 y.2.2.2.1).bind fun q=>be q.length (IntKind.i64.wrap (y.1.2.2.2.1-(16:Int)))).bind fun t=>
(y.2.2.2.1[t]?).bind fun u=>
((long 64 y.2.2.2.1).bind fun q=>be q.length (IntKind.i64.wrap (y.1.2.2.2.1-(7:Int)))).bind fun v=>
(y.2.2.2.1[v]?).bind fun w=>
((long 64 y.2.2.2.1).bind fun q=>be q.length y.1.2.2.2.1).bind fun x=>
((y.2.2.2.1[x]?).bind fun q=>some (IntKind.u32.wrap ((IntKind.u32.wrap ((IntKind.u32.wrap (u+(dl .u32 (dl .u32 c.1.1 f.1.1) i)))+w))+(dl .u32 (dl .u32 l.1.1 D.1.1) s)))).bind fun z=>
 some (.inl (((),(),(),(IntKind.i64.wrap (y.1.2.2.2.1+(1:Int))),()),y.2.1,y.2.2.1,(y.2.2.2.1.set x z),()))
else
 some (.inr (((),(),(),()),y.2.1,y.2.2.1,y.2.2.2.1,()))
noncomputable def GR:zv.J->Option (aB Gq):=br G5
theorem akk:aS O (am (codeOf Tryz.f121) 1 122) (aU zv Gq GR):=bH tQ (by kernel_rfl) ae fun y=>by kernel_rfl
abbrev yU:Shape:=⟨[eG 2 2 .u32,eG 4 4 .u32,eG 5 5 .u32,(12,.an (.d (.int .u32))),(13,.an (.d (.int .u32))),(14,.an (.d (.int .u32))),(15,.an (.d (.int .u32))),(16,.an (.d (.int .u32))),(17,.an (.d (.int .u32))),(18,.an (.d (.int .u32))),(19,.an (.d (.int .u32))),ag 122],[(2,.row .u32,.same),(4,.row .u32,.same),(5,.row .u32,.same)],208⟩
abbrev Fv:List aP:=[(.exit 6,⟨[eG 2 2 .u32,eG 4 4 .u32,(12,.an (.d (.int .u32))),(13,.an (.d (.int .u32))),(14,.an (.d (.int .u32))),(15,.an (.d (.int .u32))),(16,.an (.d (.int .u32))),(17,.an (.d (.int .u32))),(18,.an (.d (.int .u32))),(19,.an (.d (.int .u32)))],[(2,.row .u32,.same),(4,.row .u32,.same)],208⟩)]
noncomputable def y6(y:yU.J):bG yU Fv:=
 bif(decide (y.1.2.2.2.2.2.2.2.2.2.2.2.1<(64:Int))) then
(f171 ((y.1.2.2.2.2.2.2.2.1,(6:Int),()),())).bind fun a=>
(f171 ((y.1.2.2.2.2.2.2.2.1,(11:Int),()),())).bind fun b=>
(f171 ((y.1.2.2.2.2.2.2.2.1,(25:Int),()),())).bind fun c=>
(aO iF y.1.2.2.2.2.2.2.2.2.2.2.2.1).bind fun d=>
((long 64 y.2.2.2.1).bind fun q=>be q.length y.1.2.2.2.2.2.2.2.2.2.2.2.1).bind fun e=>
(y.2.2.2.1[e]?).bind fun f=>
(f171 ((y.1.2.2.2.1,(2:Int),()),())).bind fun g=>
(f171 ((y.1.2.2.2.1,(13:Int),()),())).bind fun h=>
(f171 ((y.1.2.2.2.1,(22:Int),()),())).bind fun i=>
 some (.inl (((),(),(),(IntKind.u32.wrap ((IntKind.u32.wrap ((IntKind.u32.wrap ((IntKind.u32.wrap ((IntKind.u32.wrap (y.1.2.2.2.2.2.2.2.2.2.2.1+(dl .u32 (dl .u32 a.1.1 b.1.1) c.1.1)))+(dl .u32 (eF .u32 y.1.2.2.2.2.2.2.2.1 y.1.2.2.2.2.2.2.2.2.1) (eF .u32 (dl .u32 4294967295 y.1.2.2.2.2.2.2.2.1) y.1.2.2.2.2.2.2.2.2.2.1))))+d))+f))+(IntKind.u32.wrap ((dl .u32 (dl .u32 g.1.1 h.1.1) i.1.1)+(dl .u32 (dl .u32 (eF .u32 y.1.2.2.2.1 y.1.2.2.2.2.1) (eF .u32 y.1.2.2.2.1 y.1.2.2.2.2.2.1)) (eF .u32 y.1.2.2.2.2.1 y.1.2.2.2.2.2.1)))))),y.1.2.2.2.1,y.1.2.2.2.2.1,y.1.2.2.2.2.2.1,(IntKind.u32.wrap (y.1.2.2.2.2.2.2.1+(IntKind.u32.wrap ((IntKind.u32.wrap ((IntKind.u32.wrap ((IntKind.u32.wrap (y.1.2.2.2.2.2.2.2.2.2.2.1+(dl .u32 (dl .u32 a.1.1 b.1.1) c.1.1)))+(dl .u32 (eF .u32 y.1.2.2.2.2.2.2.2.1 y.1.2.2.2.2.2.2.2.2.1) (eF .u32 (dl .u32 4294967295 y.1.2.2.2.2.2.2.2.1) y.1.2.2.2.2.2.2.2.2.2.1))))+d))+f)))),y.1.2.2.2.2.2.2.2.1,y.1.2.2.2.2.2.2.2.2.1,y.1.2.2.2.2.2.2.2.2.2.1,(IntKind.i64.wrap (y.1.2.2.2.2.2.2.2.2.2.2.2.1+(1:Int))),()),y.2.1,y.2.2.1,y.2.2.2.1,()))
else
 some (.inr (((),(),y.1.2.2.2.1,y.1.2.2.2.2.1,y.1.2.2.2.2.2.1,y.1.2.2.2.2.2.2.1,y.1.2.2.2.2.2.2.2.1,y.1.2.2.2.2.2.2.2.2.1,y.1.2.2.2.2.2.2.2.2.2.1,y.1.2.2.2.2.2.2.2.2.2.2.1,()),y.2.1,y.2.2.1,()))
noncomputable def FP:yU.J->Option (aB Fv):=br y6
theorem ain:aS O (am (codeOf Tryz.f121) 1 1018) (aU yU Fv FP):=bH tQ (by kernel_rfl) ae fun y=>by kernel_rfl
abbrev yT:Shape:=⟨[eG 2 2 .u32,eG 4 4 .u32,b_ 195 [.d (.int .u32),.d (.int .u32),.d (.int .u32),.d (.int .u32),.d (.int .u32),.d (.int .u32),.d (.int .u32),.d (.int .u32)],ag 196],[(2,.row .u32,.same),(4,.row .u32,.same)],208⟩
abbrev Fu:List aP:=[(.exit 8,⟨[eG 2 2 .u32,eG 4 4 .u32],[(2,.row .u32,.same),(4,.row .u32,.same)],208⟩)]
noncomputable def QJ(y:yT.J):bG yT Fu:=
 bif(decide (y.1.2.2.2.1<(8:Int))) then
(aO ([y.1.2.2.1.1,y.1.2.2.1.2.1,y.1.2.2.1.2.2.1,y.1.2.2.1.2.2.2.1,y.1.2.2.1.2.2.2.2.1,y.1.2.2.1.2.2.2.2.2.1,y.1.2.2.1.2.2.2.2.2.2.1,y.1.2.2.1.2.2.2.2.2.2.2.1]:List Int) y.1.2.2.2.1).bind fun a=>
((long 8 y.2.1).bind fun q=>be q.length y.1.2.2.2.1).bind fun b=>
(y.2.1[b]?).bind fun c=>
((long 8 y.2.1).bind fun q=>be q.length y.1.2.2.2.1).bind fun d=>
((y.2.1[d]?).bind fun q=>some (IntKind.u32.wrap (c+a))).bind fun e=>
 some (.inl (((),(),(y.1.2.2.1.1,y.1.2.2.1.2.1,y.1.2.2.1.2.2.1,y.1.2.2.1.2.2.2.1,y.1.2.2.1.2.2.2.2.1,y.1.2.2.1.2.2.2.2.2.1,y.1.2.2.1.2.2.2.2.2.2.1,y.1.2.2.1.2.2.2.2.2.2.2.1,()),(IntKind.i64.wrap (y.1.2.2.2.1+(1:Int))),()),(y.2.1.set d e),y.2.2.1,()))
else
 some (.inr (((),(),()),y.2.1,y.2.2.1,()))
noncomputable def FO:yT.J->Option (aB Fu):=br QJ
theorem aim:aS O (am (codeOf Tryz.f121) 1 2042) (aU yT Fu FO):=bH tQ (by kernel_rfl) ae fun y=>by kernel_rfl
abbrev i121:Shape:=⟨[b_ 0 [.d (.int .u32),.d (.int .u32),.d (.int .u32),.d (.int .u32),.d (.int .u32),.d (.int .u32),.d (.int .u32),.d (.int .u32)],aI 1 .u8],[],208⟩
abbrev YR:Shape:=⟨[eG 4 4 .u32],[(4,.q5 .u32 8,.same)],208⟩
noncomputable def f121(a:i121.J):Option YR.J:=
(IA ((a.1.2.1,(),(),(),(0:Int),()),([a.1.1.1,a.1.1.2.1,a.1.1.2.2.1,a.1.1.2.2.2.1,a.1.1.2.2.2.2.1,a.1.1.2.2.2.2.2.1,a.1.1.2.2.2.2.2.2.1,a.1.1.2.2.2.2.2.2.2.1]:List Int),(List.replicate 8 (0:Int)),(List.replicate 64 (0:Int)),())).bind fun b=>
(GR (((),(),(),(16:Int),()),b.2.1,b.2.2.1,b.2.2.2.1,())).bind fun c=>
((long 8 c.2.1).bind fun q=>be q.length (0:Int)).bind fun d=>
(c.2.1[d]?).bind fun e=>
((long 8 c.2.1).bind fun q=>be q.length (1:Int)).bind fun f=>
(c.2.1[f]?).bind fun g=>
((long 8 c.2.1).bind fun q=>be q.length (2:Int)).bind fun h=>
(c.2.1[h]?).bind fun i=>
((long 8 c.2.1).bind fun q=>be q.length (3:Int)).bind fun j=>
(c.2.1[j]?).bind fun k=>
((long 8 c.2.1).bind fun q=>be q.length (4:Int)).bind fun l=>
(c.2.1[l]?).bind fun m=>
((long 8 c.2.1).bind fun q=>be q.length (5:Int)).bind fun n=>
(c.2.1[n]?).bind fun D=>
((long 8 c.2.1).bind fun q=>be q.length (6:Int)).bind fun p=>
(c.2.1[p]?).bind fun r=>
((long 8 c.2.1).bind fun q=>be q.length (7:Int)).bind fun s=>
(c.2.1[s]?).bind fun t=>
(FP (((),(),(),e,g,i,k,m,D,r,t,(0:Int),()),c.2.1,c.2.2.1,c.2.2.2.1,())).bind fun u=>
(FO (((),(),(u.1.2.2.1,u.1.2.2.2.1,u.1.2.2.2.2.1,u.1.2.2.2.2.2.1,u.1.2.2.2.2.2.2.1,u.1.2.2.2.2.2.2.2.1,u.1.2.2.2.2.2.2.2.2.1,u.1.2.2.2.2.2.2.2.2.2.1,()),(0:Int),()),u.2.1,u.2.2.1,())).bind fun v=>
(long 8 v.2.1).bind fun w=>
(long 8 v.2.2.1).bind fun x=>
((long 8 ([(w.getD 0 (0:Int)),(w.getD 1 (0:Int)),(w.getD 2 (0:Int)),(w.getD 3 (0:Int)),(w.getD 4 (0:Int)),(w.getD 5 (0:Int)),(w.getD 6 (0:Int)),(w.getD 7 (0:Int))]:List Int)).bind fun q=>some (q,())).bind fun z=>some (((),()),z)
noncomputable def _V:aD:=aG ad Tryz.f121 i121 YR [] f121
theorem asc:aA O 121 _V:=aK tQ Tryz.func121 (by kernel_rfl) (a7 amB (a7 akk (a7 ain (a7 aim ae)))) (fun y=>by kernel_rfl) fun a=>by kernel_rfl
def gf(ws:List Int)(v:Int):List Int:=ws++v::List.replicate (63-ws.length) 0
def kq(ws:List Int):List Int:=ws++List.replicate (64-ws.length) 0
theorem WI{ws:List Int}(h:ws.length<64):kq ws=gf ws 0:=by
 unfold kq gf;rw[show 64-ws.length=(63-ws.length)+1 by omega];rfl
theorem V2{ws:List Int}(h:ws.length<64)(v:Int):gf ws v=kq (ws++[v]):=by
 unfold kq gf;rw[List.length_append,show 64-(ws.length+[v].length)=63-ws.length from by show 64-(ws.length+1)=_;omega,List.append_assoc]
 rfl
theorem TZ{ws:List Int}(h:ws.length<64)(v:Int):(gf ws v).length=64:=by unfold gf;simp;omega
theorem AL{aH:Type}{n:Nat}{xs:List aH}(h:xs.length=n):long n xs=some xs:=by unfold long;rw[if_pos h]
theorem T0{ws:List Int}(h:ws.length<64)(v:Int){k:Nat}(hk:k<64):((long 64 (gf ws v)).bind fun q=>be q.length (k:Int))=some k:=by
 rw[AL (TZ h v)];exact ft (by rw[TZ h];exact hk)
theorem vN(ws:List Int)(v:Int):(gf ws v)[ws.length]? =some v:=by unfold gf;rw[List.getElem?_append_right (Nat.le_refl _)];simp
theorem Bo{ws:List Int}{v:Int}{k:Nat}(h:k<ws.length):(gf ws v)[k]? =some (gb ws k):=by
 unfold gf;rw[List.getElem?_append_left h];exact l_ h
theorem vM(ws:List Int)(v u:Int):(gf ws v).set ws.length u=gf ws u:=by unfold gf;rw[List.set_append_right _ _ (Nat.le_refl _)];simp
theorem ap9(b:List Int):∀(ws:List Int) (i:Nat) (c0 c1 c2 c3:Int) (r0 r1:List Int),ws.length=i->i<64->
  E6 ((b,((),((),((),((i:Int),((i:Int),(([c0,c1,c2,c3]:List Int),((([c0,c1,c2,c3]:List Int).length:Int),((0:Int),()))))))))),(r0,(r1,(gf ws 0,()))))=
  some ((b,((),((),((),((i:Int),()))))),(r0,(r1,(gf ws (gX (gX (gX (gX 0 c0) c1) c2) c3),())))):=by
 intro ws i c0 c1 c2 c3 r0 r1 hw hi;subst hw;refine fB (g:=qh) (fun j=>((b,((),((),((),((ws.length:Int),((ws.length:Int),(([c0,c1,c2,c3]:List Int),((([c0,c1,c2,c3]:List Int).length:Int),((j:Int),()))))))))),
  (r0,(r1,(gf ws (match j with|0=>0|1=>gX 0 c0|2=>gX (gX 0 c0) c1|3=>gX (gX (gX 0 c0) c1) c2|_=>gX (gX (gX (gX 0 c0) c1) c2) c3),()))))) 4 (fun j hj=>?_) ?_ 4 0 rfl
 ·have hx:∀v:Int,((long 64 (gf ws v)).bind fun q=>be q.length (ws.length:Int))=some ws.length:=fun v=>T0 hi v hi
  have:j=0\/j=1\/j=2\/j=3:=by omega
  have n0:IntKind.i64.wrap (((0:Nat):Int)+1)=((0+1:Nat):Int):=rfl;have n1:IntKind.i64.wrap (((1:Nat):Int)+1)=((1+1:Nat):Int):=rfl;have n2:IntKind.i64.wrap (((2:Nat):Int)+1)=((2+1:Nat):Int):=rfl;have iN:IntKind.i64.wrap (((3:Nat):Int)+1)=((3+1:Nat):Int):=rfl;have c:∀k:Nat,k<4->decide (((k:Nat):Int)<(([c0,c1,c2,c3]:List Int).length:Int))=true:=fun k hk=>by simp;omega
  have fa:aO ([c0,c1,c2,c3]:List Int) ((0:Nat):Int)=some c0:=rfl;have ei:aO ([c0,c1,c2,c3]:List Int) ((1:Nat):Int)=some c1:=rfl;have fR:aO ([c0,c1,c2,c3]:List Int) ((2:Nat):Int)=some c2:=rfl;have jC:aO ([c0,c1,c2,c3]:List Int) ((3:Nat):Int)=some c3:=rfl;rcases this with rfl|rfl|rfl|rfl
  ·simp only[qh,c 0 (by omega),cond_true,hx,vN,vM,Option.bind_some,wF,n0,fa];rfl
  ·simp only[qh,c 1 (by omega),cond_true,hx,vN,vM,Option.bind_some,wF,n1,ei];rfl
  ·simp only[qh,c 2 (by omega),cond_true,hx,vN,vM,Option.bind_some,wF,n2,fR];rfl
  ·simp only[qh,c 3 (by omega),cond_true,hx,vN,vM,Option.bind_some,wF,iN,jC];rfl
 ·have:decide (((4:Nat):Int)<(([c0,c1,c2,c3]:List Int).length:Int))=false:=rfl;simp only[qh,this,cond_false]
theorem aqd(b:List Int)(hb:rO b):∀r0 r1:List Int,IA ((b,((),((),((),((0:Int),()))))),(r0,(r1,(List.replicate 64 (0:Int),()))))=some (((),((),((),()))),(r0,(r1,(kq (cu b 16),())))):=by
 intro r0 r1;refine fB (g:=IV) (fun i=>((b,((),((),((),((i:Int),()))))),(r0,(r1,(kq (cu b i),()))))) 16 (fun i hi=>?_) rfl 16 0 rfl
 have hl:decide ((i:Int)<16)=true:=by simp;omega
 have hlen:=n3 b i;have aa:decide (i<16)=true:=by simpa using hi
 have mK:IntKind.i64.wrap (((4*i:Nat):Int)+4)=((4*i+4:Nat):Int):=by have:=k1 (i:=i) (by omega) 4 (by omega);rwa[tU (by omega)] at this
 have hs:bm b ((4*i:Nat):Int) ((4*i+4:Nat):Int)=some [gb b (4*i),gb b (4*i+1),gb b (4*i+2),gb b (4*i+3)]:=by
  rw[qs (by omega) (by rw[hb.1];omega)]
  congr 1
  apply List.ext_getElem?;intro j;rw[List.getElem?_drop,List.getElem?_take];by_cases hj:j<4
  ·rw[if_pos (by omega),l_ (by rw[hb.1];omega)]
   have:j=0\/j=1\/j=2\/j=3:=by omega
   rcases this with rfl|rfl|rfl|rfl<;>rfl
  ·rw[if_neg (by omega)]
   rw[List.getElem?_eq_none (by simp;omega)]
 have hw:=alo (hb.pY (j:=4*i) (by omega)) (hb.pY (j:=4*i+1) (by omega)) (hb.pY (j:=4*i+2) (by omega)) (hb.pY (j:=4*i+3) (by omega))
 have DX:=ap9 b (cu b i) i (gb b (4*i)) (gb b (4*i+1)) (gb b (4*i+2)) (gb b (4*i+3)) r0 r1 hlen (by omega)
 rw[hw] at DX;have hf:=WI (ws:=cu b i) (by omega)
 have hn:kq (cu b (i+1))=gf (cu b i) (wd (gb b (4*i)) (gb b (4*i+1)) (gb b (4*i+2)) (gb b (4*i+3))):=by rw[V2 (by omega)];simp only[cu,aa,cond_true]
 simp only[IV,hl,cond_true,tU (i:=i) (by omega),mK,hs,Option.bind_some,hf,DX,hn,wp (i:=i) (by omega)]
theorem aqc(b:List Int):∀r0 r1:List Int,GR (((),((),((),((16:Int),())))),(r0,(r1,(kq (cu b 16),()))))=some (((),((),((),()))),(r0,(r1,(kq (cu b 64),())))):=by
 have t2:=fun x=>hN x 2 (by simp[eR]);have t6:=fun x=>hN x 6 (by simp[eR]);have t11:=fun x=>hN x 11 (by simp[eR])
 have t13:=fun x=>hN x 13 (by simp[eR]);have t22:=fun x=>hN x 22 (by simp[eR]);have t25:=fun x=>hN x 25 (by simp[eR])
 have t7:=fun x=>hN x 7 (by simp[eR]);have t18:=fun x=>hN x 18 (by simp[eR]);have t17:=fun x=>hN x 17 (by simp[eR]);have t19:=fun x=>hN x 19 (by simp[eR])
 intro r0 r1;refine fB (g:=G5) (fun i=>(((),((),((),(((16+i:Nat):Int),())))),(r0,(r1,(kq (cu b (16+i)),()))))) 48 (fun i hi=>?_) rfl 48 0 rfl
 have hl:decide (((16+i:Nat):Int)<64)=true:=by simp;omega
 have hlen:=n3 b (16+i);have aa:decide (16+i<16)=false:=by simp
 have hf:=WI (ws:=cu b (16+i)) (by omega)
 have hs:kq (cu b (16+(i+1)))=gf (cu b (16+i)) (wJ (cu b (16+i)) (16+i)):=by
  show kq (cu b ((16+i)+1))=_;rw[V2 (by omega)];simp only[cu,aa,cond_false]
 have ayw:=p2 (i:=16+i) (q:=15) 15 rfl (by omega) (by omega)
 have e2:=p2 (i:=16+i) (q:=2) 2 rfl (by omega) (by omega)
 have ayv:=p2 (i:=16+i) (q:=16) 16 rfl (by omega) (by omega)
 have r3:=p2 (i:=16+i) (q:=7) 7 rfl (by omega) (by omega)
 have hx:∀k:Nat,k<64->((long 64 (gf (cu b (16+i)) 0)).bind fun q=>be q.length (k:Int))=some k:=fun k hk=>T0 (by omega) _ hk
 have g15:=Bo (ws:=cu b (16+i)) (v:=0) (k:=16+i-15) (by omega)
 have g2:=Bo (ws:=cu b (16+i)) (v:=0) (k:=16+i-2) (by omega)
 have g16:=Bo (ws:=cu b (16+i)) (v:=0) (k:=16+i-16) (by omega)
 have g7:=Bo (ws:=cu b (16+i)) (v:=0) (k:=16+i-7) (by omega)
 have k6:(gf (cu b (16+i)) 0)[16+i]? =some 0:=by have:=vN (cu b (16+i)) 0;rwa[hlen] at this
 have gs:∀u,(gf (cu b (16+i)) 0).set (16+i) u=gf (cu b (16+i)) u:=fun u=>by have:=vM (cu b (16+i)) 0 u;rwa[hlen] at this
 simp only[G5,hl,cond_true,hf,ayw,e2,ayv,r3,hx (16+i-15) (by omega),hx (16+i-2) (by omega),hx (16+i-16) (by omega),hx (16+i-7) (by omega),hx (16+i) (by omega),g15,g2,g16,g7,k6,gs,Option.bind_some,t7,t18,t17,t19,Xa,V8,wp (i:=16+i) (by omega),hs,wJ,LX,LW]
 rfl
theorem aqb(R:Nat->cn)(W:List Int)(hW:W.length=64)(hR:∀i,R (i+1)=wG (gb iF i) (gb W i) (R i))(r0 r1:List Int):FP (((),((),((),((R 0).a,((R 0).b,((R 0).c,((R 0).d,((R 0).e,((R 0).f,((R 0).g,((R 0).h,((0:Int),())))))))))))),(r0,(r1,(W,()))))=
  some (((),((),((R 64).a,((R 64).b,((R 64).c,((R 64).d,((R 64).e,((R 64).f,((R 64).g,((R 64).h,())))))))))),(r0,(r1,()))):=by
 have t2:=fun x=>hN x 2 (by simp[eR]);have t6:=fun x=>hN x 6 (by simp[eR]);have t11:=fun x=>hN x 11 (by simp[eR])
 have t13:=fun x=>hN x 13 (by simp[eR]);have t22:=fun x=>hN x 22 (by simp[eR]);have t25:=fun x=>hN x 25 (by simp[eR])
 have t7:=fun x=>hN x 7 (by simp[eR]);have t18:=fun x=>hN x 18 (by simp[eR]);have t17:=fun x=>hN x 17 (by simp[eR]);have t19:=fun x=>hN x 19 (by simp[eR])
 refine fB (g:=y6) (fun i=>(((),((),((),((R i).a,((R i).b,((R i).c,((R i).d,((R i).e,((R i).f,((R i).g,((R i).h,((i:Int),())))))))))))),(r0,(r1,(W,()))))) 64 (fun i hi=>?_) ?_ 64 0 rfl
 ·have hl:decide ((i:Int)<64)=true:=by simp;omega
  have g1:=wm (b:=iF) (j:=i) (by rw[H4];exact hi)
  have hx:((long 64 W).bind fun q=>be q.length (i:Int))=some i:=by rw[AL hW];exact ft (by rw[hW];exact hi)
  have g2:=l_ (b:=W) (j:=i) (by rw[hW];exact hi)
  rw[hR i];generalize R i=s;simp only[y6,hl,cond_true,g1,hx,g2,Option.bind_some,t2,t6,t11,t13,t22,t25,wp (i:=i) (by omega),wG,DA,MX,MY,MW,L2]
 ·have:decide (((64:Nat):Int)<64)=false:=rfl;simp only[y6,this,cond_false]
theorem aqa(h:cn):∀(s:cn) (r1:List Int),FO (((),((),((s.a,(s.b,(s.c,(s.d,(s.e,(s.f,(s.g,(s.h,())))))))),((0:Int),())))),(h.list,(r1,())))=some (((),((),())),((Dd h s).list,(r1,()))):=by
 intro s r1;refine fB (g:=QJ) (fun i=>(((),((),((s.a,(s.b,(s.c,(s.d,(s.e,(s.f,(s.g,(s.h,())))))))),((i:Int),())))),((Dd h s).list.take i++h.list.drop i,(r1,())))) 8 (fun i hi=>?_) rfl 8 0 rfl
 have:i=0\/i=1\/i=2\/i=3\/i=4\/i=5\/i=6\/i=7:=by omega
 rcases this with rfl|rfl|rfl|rfl|rfl|rfl|rfl|rfl<;>(show _=_;kernel_rfl)
theorem agh(h:cn)(b:List Int)(hb:rO b):f121 (((h.a,(h.b,(h.c,(h.d,(h.e,(h.f,(h.g,(h.h,())))))))),(b,())),())=some (((),()),((wW h b).list,())):=by
 have aE:=aqd b hb;have aF:=aqc b;have pU:kq (cu b 64)=cu b 64:=by unfold kq;rw[n3];simp
 have bJ:=aqb (ms h (cu b 64)) (cu b 64) (n3 b 64) (fun _=>rfl)
 have e1:(ms h (cu b 64) 0)=h:=rfl;rw[e1] at bJ;have cB:=aqa h;have dR:∀s:cn,s.list.length=8:=fun s=>rfl
 have hx:∀k:Nat,k<8->((long 8 h.list).bind fun q=>be q.length (k:Int))=some k:=fun k hk=>by rw[AL (dR h)];exact ft (by rw[dR];exact hk)
 have z0:=hx 0 (by omega);have fQ:=hx 1 (by omega);have z2:=hx 2 (by omega);have z3:=hx 3 (by omega)
 have z4:=hx 4 (by omega);have z5:=hx 5 (by omega);have Nh:=hx 6 (by omega);have uD:=hx 7 (by omega)
 have e4:([h.a,h.b,h.c,h.d,h.e,h.f,h.g,h.h]:List Int)=h.list:=rfl;have dE:h.list[0]? =some h.a:=rfl;have cH:h.list[1]? =some h.b:=rfl;have dm:h.list[2]? =some h.c:=rfl;have dK:h.list[3]? =some h.d:=rfl;have h6:h.list[4]? =some h.e:=rfl;have eQ:h.list[5]? =some h.f:=rfl;have eZ:h.list[6]? =some h.g:=rfl;have Nk:h.list[7]? =some h.h:=rfl;simp only[Int.cast_ofNat_Int,Int.natCast_zero] at z0 fQ z2 z3 z4 z5 Nh uD;simp only[f121,e4,aE,aF,pU,Option.bind_some,z0,fQ,z2,z3,z4,z5,Nh,uD,dE,cH,dm,dK,h6,eQ,eZ,Nk,bJ,cB];rw[AL (dR _)];rfl
abbrev z_:Shape:=⟨[aj 0,ba 3 3000192],[a' 3000192 .u8 3 0],33⟩
abbrev Ht:List aP:=[(.exit 0,⟨[aj 0,ba 3 3000192],[a' 3000192 .u8 3 0],33⟩)]
noncomputable def AW(y:z_.J):bG z_ Ht:=
(iG (y.2.1.length:Int) (64:Int)).bind fun a=>
 bif(a !=(56:Int)) then
(b9 1 y.2.1 ([(0:Int)]:List Int)).bind fun b=>
 some (.inl ((y.1.1,(),()),b,()))
else
 some (.inr ((y.1.1,(),()),y.2.1,()))
noncomputable def Ii:z_.J->Option (aB Ht):=br AW
theorem alX:aS O (am (codeOf Tryz.f256) 1 28) (aU z_ Ht Ii):=bH g0 (by kernel_rfl) ae fun y=>by kernel_rfl
abbrev zl:Shape:=⟨[ba 3 3000192,ag 4,ag 5],[a' 3000192 .u8 3 0],33⟩
abbrev Gi:List aP:=[(.exit 2,⟨[ba 3 3000192],[a' 3000192 .u8 3 0],33⟩)]
noncomputable def G3(y:zl.J):bG zl Gi:=
 bif(decide (y.1.2.2.1>=(0:Int))) then
(fh .i64 y.1.2.1 (IntKind.i64.wrap ((8:Int)*y.1.2.2.1))).bind fun a=>
(b9 1 y.2.1 ([(IntKind.u8.wrap a)]:List Int)).bind fun b=>
 some (.inl (((),y.1.2.1,(IntKind.i64.wrap (y.1.2.2.1-(1:Int))),()),b,()))
else
 some (.inr (((),()),y.2.1,()))
noncomputable def GK:zl.J->Option (aB Gi):=br G3
theorem aj2:aS O (am (codeOf Tryz.f256) 1 250) (aU zl Gi GK):=bH g0 (by kernel_rfl) ae fun y=>by kernel_rfl
abbrev i256:Shape:=⟨[aj 0],[],33⟩
abbrev Xx:Shape:=⟨[ba 2 3000128],[a' 3000128 .u8 2 0],33⟩
noncomputable def f256(a:i256.J):Option Xx.J:=
(if a.1.1.length<=maxLen then some () else none).bind fun b=>
(b9 1 (bytesOf a.1.1) ([(128:Int)]:List Int)).bind fun c=>
(Ii ((a.1.1,(),()),c,())).bind fun d=>
(GK (((),(IntKind.i64.wrap ((d.1.1.length:Int)*(8:Int))),(7:Int),()),d.2.1,())).bind fun e=>
 some (((),()),e.2.1,())
noncomputable def ZT:aD:=aG ad Tryz.f256 i256 Xx [] f256
theorem aru:aA O 256 ZT:=aK g0 Tryz.func256 (by kernel_rfl) (a7 alX (a7 aj2 ae)) (fun y=>by kernel_rfl) fun a=>by kernel_rfl
noncomputable abbrev atY:a_:=[(256,ZT),(257,ZS)]
theorem Lw:aQ O (aW ad atY):=aV ⟨aru,art,⟨⟩⟩
abbrev zn:Shape:=⟨[ba 3 3000192,aI 4 .u8,ag 5],[a' 3000192 .u32 3 0],57⟩
abbrev Gk:List aP:=[(.exit 0,⟨[ba 3 3000192],[a' 3000192 .u32 3 0],57⟩)]
noncomputable def zL(y:zn.J):bG zn Gk:=
 bif(decide (y.1.2.2.1<(y.1.2.1.length:Int))) then
(bm y.1.2.1 y.1.2.2.1 (IntKind.i64.wrap (y.1.2.2.1+(64:Int)))).bind fun a=>
(f257 ((y.2.1,a,()),())).bind fun b=>
 some (.inl (((),y.1.2.1,(IntKind.i64.wrap (y.1.2.2.1+(64:Int))),()),b.2.1,()))
else
 some (.inr (((),()),y.2.1,()))
noncomputable def GM:zn.J->Option (aB Gk):=br zL
theorem aj9:aS O (am (codeOf Tryz.f220) 1 122) (aU zn Gk GM):=bH Lw (by kernel_rfl) ae fun y=>by kernel_rfl
abbrev zm:Shape:=⟨[ba 3 3000192,ba 6 3000384,ag 7],[a' 3000192 .u32 3 0,a' 3000384 .u8 6 0],57⟩
abbrev Gj:List aP:=[(.exit 2,⟨[ba 6 3000384],[a' 3000384 .u8 6 0],57⟩)]
noncomputable def R4(y:zm.J):bG zm Gj:=
 bif(decide (y.1.2.2.1<(8:Int))) then
(be y.2.1.length y.1.2.2.1).bind fun a=>
(y.2.1[a]?).bind fun b=>
(fh .u32 b (24:Int)).bind fun c=>
(be y.2.1.length y.1.2.2.1).bind fun d=>
(y.2.1[d]?).bind fun e=>
(fh .u32 e (16:Int)).bind fun f=>
(be y.2.1.length y.1.2.2.1).bind fun g=>
(y.2.1[g]?).bind fun h=>
(fh .u32 h (8:Int)).bind fun i=>
(be y.2.1.length y.1.2.2.1).bind fun j=>
(y.2.1[j]?).bind fun k=>
(b9 1 y.2.2.1 ([(IntKind.u8.wrap c),(IntKind.u8.wrap f),(IntKind.u8.wrap i),(IntKind.u8.wrap k)]:List Int)).bind fun l=>
 some (.inl (((),(),(IntKind.i64.wrap (y.1.2.2.1+(1:Int))),()),y.2.1,l,()))
else
 some (.inr (((),()),y.2.2.1,()))
noncomputable def GL:zm.J->Option (aB Gj):=br R4
theorem aj8:aS O (am (codeOf Tryz.f220) 1 506) (aU zm Gj GL):=bH Lw (by kernel_rfl) ae fun y=>by kernel_rfl
abbrev i220:Shape:=⟨[aj 0],[],57⟩
abbrev XK:Shape:=⟨[aj 2],[],57⟩
noncomputable def f220(a:i220.J):Option XK.J:=
(f256 ((a.1.1,()),())).bind fun b=>
(GM (((),b.2.1,(0:Int),()),([(1779033703:Int),(3144134277:Int),(1013904242:Int),(2773480762:Int),(1359893119:Int),(2600822924:Int),(528734635:Int),(1541459225:Int)]:List Int),())).bind fun c=>
(GL (((),(),(0:Int),()),c.2.1,([]:List Int),())).bind fun d=>
 some (((strOf d.2.1),()),())
noncomputable def Z4:aD:=aG ad Tryz.f220 i220 XK [] f220
theorem arA:aA O 220 Z4:=aK Lw Tryz.func220 (by kernel_rfl) (a7 aj9 (a7 aj8 ae)) (fun y=>by kernel_rfl) fun a=>by kernel_rfl
def kn(n:Nat):Nat:=(120-n%64)%64
def kh(n:Int):List Int:=[IntKind.u8.wrap (n.fdiv (2^56)),IntKind.u8.wrap (n.fdiv (2^48)),IntKind.u8.wrap (n.fdiv (2^40)),IntKind.u8.wrap (n.fdiv (2^32)),IntKind.u8.wrap (n.fdiv (2^24)),IntKind.u8.wrap (n.fdiv (2^16)),IntKind.u8.wrap (n.fdiv (2^8)),IntKind.u8.wrap (n.fdiv (2^0))]
def jq(s:B):List Int:=(bytesOf s++[128])++List.replicate (kn (s.length+1)) 0
def et(s:B):List Int:=jq s++kh ((s.length:Int)*8)
theorem jf(s:B):(bytesOf s).length=s.length:=by simp[bytesOf]
theorem vL(n:Nat):kn n<64:=Nat.mod_lt _ (by decide)
theorem Hb(n:Nat):(n+kn n)%64=56:=by unfold kn;omega
theorem Sd(n j:Nat)(h:j<kn n):(n+j)%64≠56:=by unfold kn at h;omega
theorem Gz(s:B):(jq s).length=s.length+1+kn (s.length+1):=by simp[jq,jf];omega
theorem zz(s:B):(et s).length=s.length+1+kn (s.length+1)+8:=by simp[et,Gz,kh]
theorem anW(x:Int):ks (IntKind.u8.wrap x):=by rw[IntKind.wrap_u8];constructor<;>omega
theorem RL(s:B):∀x,x∈et s->ks x:=by
 intro x hx;rcases List.mem_append.1 hx with h|h
 ·rcases List.mem_append.1 h with h|h
  ·rcases List.mem_append.1 h with h|h
   ·obtain⟨b,_,rfl⟩:=List.mem_map.1 h;have:=b.toNat_lt;constructor<;>omega
   ·rw[List.mem_singleton.1 h];decide
  ·rw[(List.mem_replicate.1 h).2];decide
 ·simp only[kh,List.mem_cons,List.not_mem_nil,or_false] at h;rcases h with rfl|rfl|rfl|rfl|rfl|rfl|rfl|rfl<;>exact anW _
def rf(d:List Int)(k:Nat):List Int:=(d.take (64*k+64)).drop (64*k)
theorem TP{d:List Int}{k:Nat}(h:64*k+64<=d.length)(hb:∀x,x∈d->ks x):rO (rf d k):=
 ⟨by unfold rf;simp;omega,fun x hx=>hb x (List.mem_of_mem_take (List.mem_of_mem_drop hx))⟩
def yh:cn:=⟨1779033703,3144134277,1013904242,2773480762,1359893119,2600822924,528734635,1541459225⟩
def uc(d:List Int):Nat->cn
 |0=>yh
 |k+1=>wW (uc d k) (rf d k)
def eI(s:B):cn:=uc (et s) ((et s).length/64)
theorem H7(s:B):64*((et s).length/64)=(et s).length:=by
 have:=Hb (s.length+1);rw[zz];omega
theorem Cu(n:Nat):iG (n:Int) 64=some ((n%64:Nat):Int):=by
 rw[ob (by omega) (by omega)];simp
theorem R9(n:Nat)(d:List Int):d++List.replicate n 0++[0]=d++List.replicate (n+1) 0:=by
 rw[List.append_assoc,<-List.replicate_succ']
theorem ap6{x:Int}{k:Nat}(h:k<=64):fh .i64 x (k:Int)=some (x.fdiv (2^k)):=by
 unfold fh;rw[if_neg (by omega),Int.toNat_natCast,show IntKind.i64.bits=64 from rfl,Nat.min_eq_left h]
theorem an0{x:Int}{k:Nat}(h:k<=64):fh .u64 x (k:Int)=some (x.fdiv (2^k)):=by
 unfold fh;rw[if_neg (by omega),Int.toNat_natCast,show IntKind.u64.bits=64 from rfl,Nat.min_eq_left h]
theorem QC(n:Int){i:Nat}(h:i<8):(kh n).take (i+1)=(kh n).take i++[IntKind.u8.wrap (n.fdiv (2^(8*(7-i))))]:=by
 have:i=0\/i=1\/i=2\/i=3\/i=4\/i=5\/i=6\/i=7:=by omega
 rcases this with rfl|rfl|rfl|rfl|rfl|rfl|rfl|rfl<;>rfl
abbrev qb(s:B):Prop:=s.length<=1073741824
theorem agl(s:B)(h:qb s):f256 ((s,()),())=some (((),()),(et s,())):=by
 have hm:(if s.length<=maxLen then some () else none)=some ():=if_pos (by unfold maxLen;omega)
 have ha:b9 1 (bytesOf s) ([128]:List Int)=some (bytesOf s++[128]):=dh (by decide) (by unfold ar;rw[jf];simp;omega)
 have aE:Ii ((s,((),())),(bytesOf s++[128],()))=some ((s,((),())),(jq s,())):=by
  have hz:=vL (s.length+1);have rA:∀i:Nat,(bytesOf s++[128]++List.replicate i (0:Int)).length=s.length+1+i:=fun i=>by simp[jf];omega
  have:=fB (g:=AW) (fun i=>((s,((),())),(bytesOf s++[128]++List.replicate i (0:Int),()))) (kn (s.length+1)) (b:=((s,((),())),(jq s,()))) (fun i hi=>?_) ?_ (kn (s.length+1)) 0 (by omega)
  ·rw[List.replicate_zero,List.append_nil] at this;exact this
  ·have hne:((((s.length+1+i)%64:Nat):Int) !=56)=true:=by have:=Sd (s.length+1) i hi;rw[bne_iff_ne];omega
   simp only[AW,rA,Cu,Option.bind_some,hne,cond_true];rw[dh (by decide) (by unfold ar;rw[rA];simp;omega)]
   simp only[Option.bind_some,R9]
  ·have hne:((((s.length+1+kn (s.length+1))%64:Nat):Int) !=56)=false:=by have:=Hb (s.length+1);rw[this];rfl
   simp only[AW,rA,Cu,Option.bind_some,hne,cond_false];rfl
 have aF:∀n:Int,GK (((),(n,((7:Int),()))),(jq s,()))=some (((),()),(jq s++kh n,())):=by
  intro n;have:=fB (g:=G3) (fun i=>(((),(n,((7-(i:Int)),()))),(jq s++(kh n).take i,()))) 8 (b:=(((),()),(jq s++kh n,()))) (fun i hi=>?_) rfl 8 0 rfl
  ·rw[show(7:Int)-((0:Nat):Int)=7 from rfl,List.take_zero,List.append_nil] at this;exact this
  ·have hl:decide ((7-(i:Int))>=0)=true:=by simp;omega
   have hw:IntKind.i64.wrap (8*(7-(i:Int)))=((8*(7-i):Nat):Int):=by rw[cS (by omega) (by omega)];omega
   have hs:IntKind.i64.wrap (7-(i:Int)-1)=7-((i+1:Nat):Int):=by rw[cS (by omega) (by omega)];omega
   simp only[G3,hl,cond_true,hw,ap6 (x:=n) (k:=8*(7-i)) (by omega),Option.bind_some,hs]
   rw[dh (by decide) (by unfold ar;simp[Gz,kh];have:=vL (s.length+1);omega)]
   simp only[Option.bind_some,List.append_assoc,QC n hi]
 have hn:IntKind.i64.wrap ((s.length:Int)*8)=(s.length:Int)*8:=cS (by omega) (by omega)
 simp only[f256,hm,ha,Option.bind_some,aE,hn,aF];rfl
theorem alt(s:B)(h:qb s):f220 ((s,()),())=some ((strOf ((eI s).list.flatMap fun w=>[IntKind.u8.wrap (w.fdiv (2^24)),IntKind.u8.wrap (w.fdiv (2^16)),IntKind.u8.wrap (w.fdiv (2^8)),IntKind.u8.wrap w]),()),()):=by
 have dR:=H7 s;have hlen:=zz s;have hz:=vL (s.length+1);have j3:=RL s;have aE:GM (((),(et s,((0:Int),()))),(yh.list,()))=some (((),()),((eI s).list,())):=by
  refine fB (g:=zL) (fun k=>(((),(et s,(((64*k:Nat):Int),()))),((uc (et s) k).list,()))) ((et s).length/64) (fun k hk=>?_) ?_ ((et s).length/64) 0 (by omega)
  ·have hk2:64*k+64<=(et s).length:=by omega
   have hl:decide (((64*k:Nat):Int)<((et s).length:Int))=true:=by simp;omega
   have hw:IntKind.i64.wrap (((64*k:Nat):Int)+64)=((64*k+64:Nat):Int):=by rw[cS (by omega) (by omega)];omega
   have hs:bm (et s) ((64*k:Nat):Int) ((64*k+64:Nat):Int)=some (rf (et s) k):=qs (by omega) hk2
   have hb:=ahv (uc (et s) k) (rf (et s) k) (TP hk2 j3);simp only[zL,hl,cond_true,hw,hs,Option.bind_some,hb];rfl
  ·have hl:decide (((64*((et s).length/64):Nat):Int)<((et s).length:Int))=false:=by simp;omega
   simp only[zL,hl,cond_false];rfl
 have aF:∀q:cn,GL (((),((),((0:Int),()))),(q.list,(([]:List Int),())))=some (((),()),((q.list.flatMap fun w=>[IntKind.u8.wrap (w.fdiv (2^24)),IntKind.u8.wrap (w.fdiv (2^16)),IntKind.u8.wrap (w.fdiv (2^8)),IntKind.u8.wrap w]),())):=by
  intro q;refine fB (g:=R4) (fun i=>(((),((),((i:Int),()))),(q.list,((q.list.take i).flatMap fun w=>[IntKind.u8.wrap (w.fdiv (2^24)),IntKind.u8.wrap (w.fdiv (2^16)),IntKind.u8.wrap (w.fdiv (2^8)),IntKind.u8.wrap w],())))) 8 (fun i hi=>?_) rfl 8 0 rfl
  have:i=0\/i=1\/i=2\/i=3\/i=4\/i=5\/i=6\/i=7:=by omega
  rcases this with rfl|rfl|rfl|rfl|rfl|rfl|rfl|rfl<;>(show _=_;kernel_rfl)
 have lU:=agl s h;have e4:([1779033703,3144134277,1013904242,2773480762,1359893119,2600822924,528734635,1541459225]:List Int)=yh.list:=rfl;simp only[f220,lU,Option.bind_some,e4,aE,aF]
abbrev Vh:Shape:=⟨[ay 0 500000 0,(1,.an (.d (.int .u8)))],[bp 37000001 .u8 500000 1,ax 500000 [.dx,.own 37000001]],17⟩
abbrev UO:Shape:=⟨[ay 0 500000 0,(4,.an (.C2))],[bp 37000001 .u8 500000 1,ax 500000 [.dx,.own 37000001]],17⟩
noncomputable def JO(a:Vh.J):Option UO.J:=
(b9 1 a.2.1 ([a.1.2.1]:List Int)).bind fun b=>
 some (((),(),()),b,((),(),()),())
noncomputable def VP:aD:=aG ad Tryz.f122 Vh UO [0] JO
theorem anM:aA O 122 VP:=aK g0 Tryz.func122 (by kernel_rfl) ae (fun y=>by kernel_rfl) fun a=>by kernel_rfl
abbrev zo:Shape:=⟨[aj 0,aj 3,ba 4 3000256,ag 5],[a' 3000256 .u8 4 0],30⟩
abbrev Gl:List aP:=[(.exit 0,⟨[ba 4 3000256],[a' 3000256 .u8 4 0],30⟩)]
noncomputable def zM(y:zo.J):bG zo Gl:=
 bif(decide (y.1.2.2.2.1<(y.1.1.length:Int))) then
(aO y.1.1 y.1.2.2.2.1).bind fun a=>
(lE .u8 (a.toNat:Int) (16:Int)).bind fun b=>
(aO y.1.2.1 b).bind fun c=>
(aO y.1.1 y.1.2.2.2.1).bind fun d=>
(iG (d.toNat:Int) (16:Int)).bind fun e=>
(aO y.1.2.1 e).bind fun f=>
(b9 1 y.2.1 ([(c.toNat:Int),(f.toNat:Int)]:List Int)).bind fun g=>
 some (.inl ((y.1.1,y.1.2.1,(),(IntKind.i64.wrap (y.1.2.2.2.1+(1:Int))),()),g,()))
else
 some (.inr (((),()),y.2.1,()))
noncomputable def GN:zo.J->Option (aB Gl):=br zM
theorem aka:aS O (am (codeOf Tryz.f219) 1 122) (aU zo Gl GN):=bH g0 (by kernel_rfl) ae fun y=>by kernel_rfl
abbrev i219:Shape:=⟨[aj 0],[],30⟩
abbrev XL:Shape:=⟨[aj 2],[],30⟩
noncomputable def f219(a:i219.J):Option XL.J:=
(GN ((a.1.1,([48,49,50,51,52,53,54,55,56,57,97,98,99,100,101,102]:B),(),(0:Int),()),([]:List Int),())).bind fun b=>
 some (((strOf b.2.1),()),())
noncomputable def Z5:aD:=aG ad Tryz.f219 i219 XL [] f219
theorem arB:aA O 219 Z5:=aK g0 Tryz.func219 (by kernel_rfl) (a7 aka ae) (fun y=>by kernel_rfl) fun a=>by kernel_rfl
noncomputable abbrev aun:a_:=[(219,Z5),(220,Z4)]
theorem avt:aQ O (aW ad aun):=aV ⟨arB,arA,⟨⟩⟩
abbrev i173:Shape:=⟨[aj 0],[],7⟩
abbrev Yg:Shape:=⟨[aj 2],[],7⟩
noncomputable def f173(a:i173.J):Option Yg.J:=
(f220 ((a.1.1,()),())).bind fun b=>
(f219 ((b.1.1,()),())).bind fun c=>
(bm c.1.1 (0:Int) (16:Int)).bind fun d=>
 some ((d,()),())
noncomputable def _r:aD:=aG ad Tryz.f173 i173 Yg [] f173
theorem z173:aA O 173 _r:=aK avt Tryz.func173 (by kernel_rfl) ae (fun y=>by kernel_rfl) fun a=>by kernel_rfl
noncomputable abbrev azb:a_:=[(121,_V),(122,VP)]
theorem uB:aQ O (aW ad azb):=aV ⟨asc,anM,⟨⟩⟩
abbrev BH:Shape:=⟨[aj 0,eG 3 3 .u32,ba 4 3000256],[(3,.row .u32,.same),a' 3000256 .u8 4 0],70⟩
abbrev Je:List aP:=[(.exit 0,⟨[aj 0,eG 3 3 .u32,ba 4 3000256],[(3,.row .u32,.same),a' 3000256 .u8 4 0],70⟩)]
noncomputable def B8(y:BH.J):bG BH Je:=
(iG (y.2.2.1.length:Int) (64:Int)).bind fun a=>
 bif(a !=(56:Int)) then
(b9 1 y.2.2.1 ([(0:Int)]:List Int)).bind fun b=>
 some (.inl ((y.1.1,(),(),()),y.2.1,b,()))
else
 some (.inr ((y.1.1,(),(),()),y.2.1,y.2.2.1,()))
noncomputable def JD:BH.J->Option (aB Je):=br B8
theorem aok:aS O (am (codeOf Tryz.f69) 1 60) (aU BH Je JD):=bH uB (by kernel_rfl) ae fun y=>by kernel_rfl
abbrev zU:Shape:=⟨[eG 3 3 .u32,ba 4 3000256,(5,.an (.d (.int .u64))),ag 6],[(3,.row .u32,.same),a' 3000256 .u8 4 0],70⟩
abbrev Hj:List aP:=[(.exit 2,⟨[eG 3 3 .u32,ba 4 3000256],[(3,.row .u32,.same),a' 3000256 .u8 4 0],70⟩)]
noncomputable def IL(y:zU.J):bG zU Hj:=
 bif(decide (y.1.2.2.2.1>=(0:Int))) then
(fh .u64 y.1.2.2.1 y.1.2.2.2.1).bind fun a=>
(b9 1 y.2.2.1 ([(IntKind.u8.wrap a)]:List Int)).bind fun b=>
 some (.inl (((),(),y.1.2.2.1,(IntKind.i64.wrap (y.1.2.2.2.1-(8:Int))),()),y.2.1,b,()))
else
 some (.inr (((),(),()),y.2.1,y.2.2.1,()))
noncomputable def Ia:zU.J->Option (aB Hj):=br IL
theorem alJ:aS O (am (codeOf Tryz.f69) 1 506) (aU zU Hj Ia):=bH uB (by kernel_rfl) ae fun y=>by kernel_rfl
abbrev zg:Shape:=⟨[eG 3 3 .u32,aI 4 .u8,ag 7],[(3,.row .u32,.same)],70⟩
abbrev Gd:List aP:=[(.exit 4,⟨[eG 3 3 .u32],[(3,.row .u32,.same)],70⟩)]
noncomputable def zF(y:zg.J):bG zg Gd:=
 bif(decide (y.1.2.2.1<(y.1.2.1.length:Int))) then
(long 8 y.2.1).bind fun a=>
(bm y.1.2.1 y.1.2.2.1 (IntKind.i64.wrap (y.1.2.2.1+(64:Int)))).bind fun b=>
(f121 ((((a.getD 0 (0:Int)),(a.getD 1 (0:Int)),(a.getD 2 (0:Int)),(a.getD 3 (0:Int)),(a.getD 4 (0:Int)),(a.getD 5 (0:Int)),(a.getD 6 (0:Int)),(a.getD 7 (0:Int)),()),b,()),())).bind fun c=>
(long 8 y.2.1).bind fun d=>
 some (.inl (((),y.1.2.1,(IntKind.i64.wrap (y.1.2.2.1+(64:Int))),()),([((pad (t:=.u32) 8 c.2.1).getD 0 (0:Int)),((pad (t:=.u32) 8 c.2.1).getD 1 (0:Int)),((pad (t:=.u32) 8 c.2.1).getD 2 (0:Int)),((pad (t:=.u32) 8 c.2.1).getD 3 (0:Int)),((pad (t:=.u32) 8 c.2.1).getD 4 (0:Int)),((pad (t:=.u32) 8 c.2.1).getD 5 (0:Int)),((pad (t:=.u32) 8 c.2.1).getD 6 (0:Int)),((pad (t:=.u32) 8 c.2.1).getD 7 (0:Int))]:List Int),()))
else
 some (.inr (((),()),y.2.1,()))
noncomputable def GG:zg.J->Option (aB Gd):=br zF
theorem ajU:aS O (am (codeOf Tryz.f69) 1 1018) (aU zg Gd GG):=bH uB (by kernel_rfl) ae fun y=>by kernel_rfl
abbrev yn:Shape:=⟨[ay 8 8 0,(10,.an (.d (.int .u32))),ag 11,aI 52 .u32,ag 53,ag 54],[bp 5000513 .u8 8 1,ax 8 [.dx,.own 5000513]],70⟩
abbrev EP:List aP:=[(.exit 8,⟨[ay 8 8 0,aI 52 .u32,ag 53,ag 54],[bp 5000513 .u8 8 1,ax 8 [.dx,.own 5000513]],70⟩)]
noncomputable def EW(y:yn.J):bG yn EP:=
 bif(decide (y.1.2.2.1>=(0:Int))) then
(fh .u32 y.1.2.1 y.1.2.2.1).bind fun a=>
(aO ([48,49,50,51,52,53,54,55,56,57,97,98,99,100,101,102]:B) (eF .u32 a (15:Int))).bind fun b=>
(JO (((),(b.toNat:Int),()),y.2.1,((),(),()),())).bind fun c=>
 some (.inl (((),y.1.2.1,(IntKind.i64.wrap (y.1.2.2.1-(4:Int))),y.1.2.2.2.1,y.1.2.2.2.2.1,y.1.2.2.2.2.2.1,()),c.2.1,((),(),()),()))
else
 some (.inr (((),y.1.2.2.2.1,y.1.2.2.2.2.1,y.1.2.2.2.2.2.1,()),y.2.1,((),(),()),()))
noncomputable def EU:yn.J->Option (aB EP):=br EW
theorem afI:aS O (am (c4 (am (codeOf Tryz.f69) 1 4090)) 8180 1047142) (aU yn EP EU):=bH uB (by kernel_rfl) ae fun y=>by kernel_rfl
abbrev zf:Shape:=⟨[ay 8 8 0,aI 52 .u32,ag 53,ag 54],[bp 5000513 .u8 8 1,ax 8 [.dx,.own 5000513]],70⟩
abbrev Gc:List aP:=[(.exit 6,⟨[ay 8 8 0],[bp 5000513 .u8 8 1,ax 8 [.dx,.own 5000513]],70⟩)]
noncomputable def qu(y:zf.J):bG zf Gc:=
 bif(decide (y.1.2.2.2.1<y.1.2.2.1)) then
(aO y.1.2.1 y.1.2.2.2.1).bind fun a=>
(EU (((),a,(28:Int),y.1.2.1,y.1.2.2.1,y.1.2.2.2.1,()),y.2.1,((),(),()),())).bind fun b=>
 some (.inl (((),b.1.2.1,b.1.2.2.1,(IntKind.i64.wrap (b.1.2.2.2.1+(1:Int))),()),b.2.1,((),(),()),()))
else
 some (.inr (((),()),y.2.1,((),(),()),()))
noncomputable def GF:zf.J->Option (aB Gc):=br qu
theorem ajT:aS O (am (codeOf Tryz.f69) 1 4090) (aU zf Gc GF):=bH uB (by kernel_rfl) (a7 afI ae) fun y=>by kernel_rfl
abbrev i69:Shape:=⟨[aj 0],[],70⟩
abbrev aa5:Shape:=⟨[aj 2],[],70⟩
noncomputable def f69(a:i69.J):Option aa5.J:=
(long 8 (List.replicate 8 (0:Int))).bind fun b=>
(if a.1.1.length<=maxLen then some () else none).bind fun c=>
(b9 1 (bytesOf a.1.1) ([(128:Int)]:List Int)).bind fun d=>
(JD ((a.1.1,(),(),()),([(1779033703:Int),(3144134277:Int),(1013904242:Int),(2773480762:Int),(1359893119:Int),(2600822924:Int),(528734635:Int),(1541459225:Int)]:List Int),d,())).bind fun e=>
(Ia (((),(),(IntKind.u64.wrap ((IntKind.u64.wrap (e.1.1.length:Int))*(8:Int))),(56:Int),()),e.2.1,e.2.2.1,())).bind fun f=>
(GG (((),f.2.2.1,(0:Int),()),f.2.1,())).bind fun g=>
((long 8 g.2.1).bind fun q=>bm q (0:Int) (2:Int)).bind fun h=>
(GF (((),h,(h.length:Int),(0:Int),()),([]:List Int),((),(),()),())).bind fun i=>
 some (((strOf i.2.1),()),())
noncomputable def acE:aD:=aG ad Tryz.f69 i69 aa5 [] f69
theorem avV:aA O 69 acE:=aK uB Tryz.func69 (by kernel_rfl) (a7 aok (a7 alJ (a7 ajU (a7 ajT ae)))) (fun y=>by kernel_rfl) fun a=>by kernel_rfl
def tM:B:=[48,49,50,51,52,53,54,55,56,57,97,98,99,100,101,102]
def jr(k:Nat):UInt8:=tM.getD k 48
theorem JG{k:Nat}(h:k<16):aO tM (k:Int)=some (jr k):=by
 rw[b4];unfold jr;rw[List.getD_eq_getElem?_getD,List.getElem?_eq_getElem (by exact h)];rfl
def im(b:UInt8):B:=[jr (b.toNat/16),jr (b.toNat%16)]
def fN(w:Int):B:=[jr (w.toNat/268435456%16),jr (w.toNat/16777216%16),jr (w.toNat/1048576%16),jr (w.toNat/65536%16),jr (w.toNat/4096%16),jr (w.toNat/256%16),jr (w.toNat/16%16),jr (w.toNat%16)]
def pz(s:B):B:=fN (eI s).a++fN (eI s).b
theorem uT(s:B):strOf (bytesOf s)=s:=by
 unfold strOf bytesOf;rw[List.map_map];refine List.map_id'' (fun b=>?_) s
 simp
theorem oX(s t:B):bytesOf (s++t)=bytesOf s++bytesOf t:=by unfold bytesOf;rw[List.map_append]
theorem afq(s:B)(h:qb s):f219 ((s,()),())=some ((s.flatMap im,()),()):=by
 have aE:GN ((s,(tM,((),((0:Int),())))),(([]:List Int),()))=some (((),()),(bytesOf (s.flatMap im),())):=by
  have hlen:∀t:B,(t.flatMap im).length=2*t.length:=by
   intro t;induction t with
   |nil=>rfl
   |cons b r ih=>rw[List.flatMap_cons,List.length_append,ih];simp[im];omega
  refine fB (g:=zM) (fun i=>((s,(tM,((),((i:Int),())))),(bytesOf ((s.take i).flatMap im),()))) s.length (fun i hi=>?_) ?_ s.length 0 (by omega)
  ·obtain⟨b,hb⟩:∃b,s[i]? =some b:=⟨s[i],List.getElem?_eq_getElem hi⟩;have az:lE .u8 (b.toNat:Int) 16=some ((b.toNat/16:Nat):Int):=by
    have:=b.toNat_lt;unfold lE;rw[if_neg (by decide),Int.tdiv_eq_ediv_of_nonneg (by omega),IntKind.wrap_u8]
    congr 1;omega
   have hr:iG (b.toNat:Int) 16=some ((b.toNat%16:Nat):Int):=by rw[ob (by omega) (by omega)];simp
   have:=b.toNat_lt;have e1:=JG (k:=b.toNat/16) (by omega)
   have e2:=JG (k:=b.toNat%16) (by omega)
   have au:s.take (i+1)=s.take i++[b]:=by rw[List.take_add_one,hb];rfl
   simp only[zM,ce hi,cond_true,b4,hb,Option.bind_some,az,hr,au];simp only[<-b4,e1,e2,Option.bind_some];rw[dh (by decide) (by unfold ar;rw[jf,hlen];simp;omega),bU (by unfold ar;omega)]
   simp only[Option.bind_some,List.flatMap_append,oX];rfl
  ·simp only[zM,du,cond_false,List.take_length]
 have e4:([48,49,50,51,52,53,54,55,56,57,97,98,99,100,101,102]:B)=tM:=rfl;simp only[f219,e4,aE,Option.bind_some,uT]
abbrev rM(w:Int):Prop:=0<=w/\w<4294967296
theorem Ty{w:Int}(h:rM w):im (UInt8.ofNat (IntKind.u8.wrap (w.fdiv (2^24))).toNat)++(im (UInt8.ofNat (IntKind.u8.wrap (w.fdiv (2^16))).toNat)++(im (UInt8.ofNat (IntKind.u8.wrap (w.fdiv (2^8))).toNat)++im (UInt8.ofNat (IntKind.u8.wrap w).toNat)))=fN w:=by
 obtain⟨n,rfl⟩:=Int.eq_ofNat_of_zero_le h.1;have hn:n<4294967296:=by have:=h.2;omega
 have e:∀m:Nat,(UInt8.ofNat (IntKind.u8.wrap (m:Int)).toNat).toNat=m%256:=fun m=>by
  rw[IntKind.wrap_u8,show((m:Int)%256).toNat=m%256 by omega];simp
 have f:∀k:Nat,((n:Int).fdiv (2^k))=((n/2^k:Nat):Int):=fun k=>by
  rw[Int.fdiv_eq_ediv_of_nonneg _ (by exact Int.le_of_lt (Int.pow_pos (by decide)))]
  simp
 rw[f,f,f];simp only[im,fN,e,List.cons_append,List.nil_append,Int.toNat_natCast];rw[show n/2^24%256/16=n/268435456%16 by omega,show n/2^24%256%16=n/16777216%16 by omega,show n/2^16%256/16=n/1048576%16 by omega,show n/2^16%256%16=n/65536%16 by omega,
  show n/2^8%256/16=n/4096%16 by omega,show n/2^8%256%16=n/256%16 by omega,show n%256/16=n/16%16 by omega,show n%256%16=n%16 by omega]
theorem V4(x:Int):rM (IntKind.u32.wrap x):=by rw[IntKind.wrap_u32];constructor<;>omega
theorem Zu(s:B):rM (eI s).a/\rM (eI s).b:=by
 have h1:=H7 s;have h2:=zz s;unfold eI;generalize hk:(et s).length/64=k at h1;cases k with
 |zero=>omega
 |succ k=>exact⟨V4 _,V4 _⟩
theorem RV(w:Int):(fN w).length=8:=rfl
theorem zc(s:B):(pz s).length=16:=rfl
theorem ap3(s:B)(h:qb s):f173 ((s,()),())=some ((pz s,()),()):=by
 have aE:=alt s h;have hw:=Zu s;have aF:=afq (strOf ((eI s).list.flatMap fun w=>[IntKind.u8.wrap (w.fdiv (2^24)),IntKind.u8.wrap (w.fdiv (2^16)),IntKind.u8.wrap (w.fdiv (2^8)),IntKind.u8.wrap w])) (by unfold qb;simp[strOf,cn.list])
 have au:∀q:cn,bm ((strOf (q.list.flatMap fun w=>[IntKind.u8.wrap (w.fdiv (2^24)),IntKind.u8.wrap (w.fdiv (2^16)),IntKind.u8.wrap (w.fdiv (2^8)),IntKind.u8.wrap w])).flatMap im) 0 16=
   some ((im (UInt8.ofNat (IntKind.u8.wrap (q.a.fdiv (2^24))).toNat)++(im (UInt8.ofNat (IntKind.u8.wrap (q.a.fdiv (2^16))).toNat)++(im (UInt8.ofNat (IntKind.u8.wrap (q.a.fdiv (2^8))).toNat)++im (UInt8.ofNat (IntKind.u8.wrap q.a).toNat))))++
    (im (UInt8.ofNat (IntKind.u8.wrap (q.b.fdiv (2^24))).toNat)++(im (UInt8.ofNat (IntKind.u8.wrap (q.b.fdiv (2^16))).toNat)++(im (UInt8.ofNat (IntKind.u8.wrap (q.b.fdiv (2^8))).toNat)++im (UInt8.ofNat (IntKind.u8.wrap q.b).toNat))))):=fun q=>rfl
 simp only[f173,aE,aF,Option.bind_some,au,Ty hw.1,Ty hw.2];rfl
theorem aqW{m:Nat}(h:m<4294967296):eF .u32 (m:Int) 15=((m%16:Nat):Int):=by
 unfold eF;rw[BitVec.toNat_and,FF h,show(BitVec.ofInt IntKind.u32.bits 15).toNat=15 from rfl,show(15:Nat)=2^4-1 from rfl,Nat.and_two_pow_sub_one_eq_mod,o5 (by omega) (by omega)]
theorem akN(w:Int){i:Nat}(h:i<8):(fN w)[i]? =some (jr (w.toNat/2^(28-4*i)%16)):=by
 have:i=0\/i=1\/i=2\/i=3\/i=4\/i=5\/i=6\/i=7:=by omega
 rcases this with rfl|rfl|rfl|rfl|rfl|rfl|rfl|rfl<;>simp[fN]
theorem RU(w:Int)(hw:rM w)(r0:List Int)(hr:r0.length<=100)(p q u):EU (((),(w,((28:Int),(p,(q,(u,())))))),(r0,(((),((),())),())))=some (((),(p,(q,(u,())))),(r0++bytesOf (fN w),(((),((),())),()))):=by
 have:=fB (g:=EW) (fun i=>(((),(w,((28-4*(i:Int)),(p,(q,(u,())))))),(r0++bytesOf ((fN w).take i),(((),((),())),())))) 8 (b:=(((),(p,(q,(u,())))),(r0++bytesOf (fN w),(((),((),())),())))) (fun i hi=>?_) rfl 8 0 rfl
 ·rw[show(28:Int)-4*((0:Nat):Int)=28 from rfl,List.take_zero] at this
  have e:r0++bytesOf []=r0:=List.append_nil r0;rw[e] at this;exact this
 ·obtain⟨n,rfl⟩:=Int.eq_ofNat_of_zero_le hw.1;have hn:n<4294967296:=by have:=hw.2;omega
  have hl:decide ((28-4*(i:Int))>=0)=true:=by simp;omega
  have hs:fh .u32 (n:Int) (28-4*(i:Int))=some ((n/2^(28-4*i):Nat):Int):=by
   rw[show(28-4*(i:Int))=((28-4*i:Nat):Int) by omega]
   unfold fh;rw[if_neg (by omega),Int.toNat_natCast,show IntKind.u32.bits=32 from rfl,Nat.min_eq_left (by omega),Int.fdiv_eq_ediv_of_nonneg _ (by exact Int.le_of_lt (Int.pow_pos (by decide)))]
   simp
  have hlt:n/2^(28-4*i)<4294967296:=Nat.lt_of_le_of_lt (Nat.div_le_self _ _) hn;have ha:=aqW hlt;have hx:=JG (k:=n/2^(28-4*i)%16) (Nat.mod_lt _ (by decide))
  have aa:IntKind.i64.wrap (28-4*(i:Int)-4)=28-4*((i+1:Nat):Int):=by rw[cS (by omega) (by omega)];omega
  have au:(fN (n:Int)).take (i+1)=(fN (n:Int)).take i++[jr (n/2^(28-4*i)%16)]:=by
   rw[List.take_add_one,akN _ hi,Int.toNat_natCast];rfl
  have e4:([48,49,50,51,52,53,54,55,56,57,97,98,99,100,101,102]:B)=tM:=rfl;simp only[EW,hl,cond_true,hs,Option.bind_some,ha,e4,hx,JO,aa,au,oX];rw[dh (by decide) (by unfold ar;simp[jf,RV];omega)]
  simp only[Option.bind_some,List.append_assoc];rfl
theorem anV(s:B)(h:qb s):f69 ((s,()),())=some ((pz s,()),()):=by
 have dR:=H7 s;have hlen:=zz s;have hz:=vL (s.length+1);have j3:=RL s;have hm:(if s.length<=maxLen then some () else none)=some ():=if_pos (by unfold maxLen;omega)
 have ha:b9 1 (bytesOf s) ([128]:List Int)=some (bytesOf s++[128]):=dh (by decide) (by unfold ar;rw[jf];simp;omega)
 have h8:long 8 (List.replicate 8 (0:Int))=some (List.replicate 8 (0:Int)):=rfl;have aE:∀r0:List Int,JD ((s,((),((),()))),(r0,(bytesOf s++[128],())))=some ((s,((),((),()))),(r0,(jq s,()))):=by
  intro r0;have rA:∀i:Nat,(bytesOf s++[128]++List.replicate i (0:Int)).length=s.length+1+i:=fun i=>by simp[jf];omega
  have:=fB (g:=B8) (fun i=>((s,((),((),()))),(r0,(bytesOf s++[128]++List.replicate i (0:Int),())))) (kn (s.length+1)) (b:=((s,((),((),()))),(r0,(jq s,())))) (fun i hi=>?_) ?_ (kn (s.length+1)) 0 (by omega)
  ·rw[List.replicate_zero,List.append_nil] at this;exact this
  ·have hne:((((s.length+1+i)%64:Nat):Int) !=56)=true:=by have:=Sd (s.length+1) i hi;rw[bne_iff_ne];omega
   simp only[B8,rA,Cu,Option.bind_some,hne,cond_true];rw[dh (by decide) (by unfold ar;rw[rA];simp;omega)]
   simp only[Option.bind_some,R9]
  ·have hne:((((s.length+1+kn (s.length+1))%64:Nat):Int) !=56)=false:=by have:=Hb (s.length+1);rw[this];rfl
   simp only[B8,rA,Cu,Option.bind_some,hne,cond_false];rfl
 have aF:∀(n:Int) (r0:List Int),Ia (((),((),(n,((56:Int),())))),(r0,(jq s,())))=some (((),((),())),(r0,(jq s++kh n,()))):=by
  intro n r0;have:=fB (g:=IL) (fun i=>(((),((),(n,((56-8*(i:Int)),())))),(r0,(jq s++(kh n).take i,())))) 8 (b:=(((),((),())),(r0,(jq s++kh n,())))) (fun i hi=>?_) rfl 8 0 rfl
  ·rw[show(56:Int)-8*((0:Nat):Int)=56 from rfl,List.take_zero,List.append_nil] at this;exact this
  ·have hl:decide ((56-8*(i:Int))>=0)=true:=by simp;omega
   have hw:(56-8*(i:Int))=((8*(7-i):Nat):Int):=by omega
   have hs:IntKind.i64.wrap (56-8*(i:Int)-8)=56-8*((i+1:Nat):Int):=by rw[cS (by omega) (by omega)];omega
   have hx:fh .u64 n (56-8*(i:Int))=some (n.fdiv (2^(8*(7-i)))):=by rw[hw];exact an0 (by omega)
   simp only[IL,hl,cond_true,hx,Option.bind_some,hs];rw[dh (by decide) (by unfold ar;simp[Gz,kh];have:=vL (s.length+1);omega)]
   simp only[Option.bind_some,List.append_assoc,QC n hi]
 have hp:∀q:cn,long 8 q.list=some q.list:=fun q=>rfl
 have bJ:GG (((),(et s,((0:Int),()))),(yh.list,()))=some (((),()),((eI s).list,())):=by
  refine fB (g:=zF) (fun k=>(((),(et s,(((64*k:Nat):Int),()))),((uc (et s) k).list,()))) ((et s).length/64) (fun k hk=>?_) ?_ ((et s).length/64) 0 (by omega)
  ·have hk2:64*k+64<=(et s).length:=by omega
   have hl:decide (((64*k:Nat):Int)<((et s).length:Int))=true:=by simp;omega
   have hw:IntKind.i64.wrap (((64*k:Nat):Int)+64)=((64*k+64:Nat):Int):=by rw[cS (by omega) (by omega)];omega
   have hs:bm (et s) ((64*k:Nat):Int) ((64*k+64:Nat):Int)=some (rf (et s) k):=qs (by omega) hk2
   have hb:=agh (uc (et s) k) (rf (et s) k) (TP hk2 j3);have az:∀q:cn,((q.list.getD 0 0,(q.list.getD 1 0,(q.list.getD 2 0,(q.list.getD 3 0,(q.list.getD 4 0,(q.list.getD 5 0,(q.list.getD 6 0,(q.list.getD 7 0,())))))))):Int×Int×Int×Int×Int×Int×Int×Int×Unit)=(q.a,(q.b,(q.c,(q.d,(q.e,(q.f,(q.g,(q.h,())))))))):=fun q=>rfl
   simp only[zF,hl,cond_true,hw,hs,Option.bind_some,hp,az,hb];rfl
  ·have hl:decide (((64*((et s).length/64):Nat):Int)<((et s).length:Int))=false:=by simp;omega
   simp only[zF,hl,cond_false];rfl
 have hw:=Zu s;have cB:∀a b:Int,rM a->rM b->GF (((),(([a,b]:List Int),((([a,b]:List Int).length:Int),((0:Int),())))),(([]:List Int),(((),((),())),())))=some (((),()),(bytesOf (fN a++fN b),(((),((),())),()))):=by
  intro a b ha hb;have e1:=RU a ha [] (by simp) ([a,b]:List Int) ((2:Int)) (0:Int)
  have e2:=RU b hb (bytesOf (fN a)) (by rw[jf,RV];decide) ([a,b]:List Int) ((2:Int)) (1:Int)
  have dE:aO ([a,b]:List Int) 0=some a:=rfl;have cH:aO ([a,b]:List Int) 1=some b:=rfl;have iw:qu (((),(([a,b]:List Int),((2:Int),((0:Int),())))),(([]:List Int),(((),((),())),())))=some (.inl (((),(([a,b]:List Int),((2:Int),((1:Int),())))),(bytesOf (fN a),(((),((),())),())))):=by
   have:decide ((0:Int)<2)=true:=rfl;simp only[qu,this,cond_true,dE,Option.bind_some,e1];rfl
  have s1:qu (((),(([a,b]:List Int),((2:Int),((1:Int),())))),(bytesOf (fN a),(((),((),())),())))=some (.inl (((),(([a,b]:List Int),((2:Int),((2:Int),())))),(bytesOf (fN a++fN b),(((),((),())),())))):=by
   have:decide ((1:Int)<2)=true:=rfl;simp only[qu,this,cond_true,cH,Option.bind_some,e2,oX];rfl
  have s2:qu (((),(([a,b]:List Int),((2:Int),((2:Int),())))),(bytesOf (fN a++fN b),(((),((),())),())))=some (.inr (((),()),(bytesOf (fN a++fN b),(((),((),())),())))):=by
   have:decide ((2:Int)<2)=false:=rfl;simp only[qu,this,cond_false]
  exact(dN iw).trans ((dN s1).trans (cp s2))
 have hn:IntKind.u64.wrap (IntKind.u64.wrap (s.length:Int)*8)=(s.length:Int)*8:=by rw[IntKind.wrap_u64,IntKind.wrap_u64];omega
 have e4:([1779033703,3144134277,1013904242,2773480762,1359893119,2600822924,528734635,1541459225]:List Int)=yh.list:=rfl;have hz2:((long 8 (eI s).list).bind fun q=>bm q (0:Int) (2:Int))=some [(eI s).a,(eI s).b]:=rfl
 have asY:jq s++kh ((s.length:Int)*8)=et s:=rfl;simp only[f69,h8,hm,ha,Option.bind_some,e4,aE,hn,aF,asY,bJ,hz2,cB _ _ hw.1 hw.2,uT];rfl
abbrev Wx:Shape:=⟨[ay 0 500000 0,aj 1],[bp 37000001 .u8 500000 1,ax 500000 [.dx,.own 37000001]],19⟩
abbrev Wh:Shape:=⟨[ay 0 500000 0,ag 4,(5,.an (.C2))],[bp 37000001 .u8 500000 1,ax 500000 [.dx,.own 37000001]],19⟩
noncomputable def me(a:Wx.J):Option Wh.J:=
(b9 1 a.2.1 (bytesOf a.1.2.1)).bind fun b=>
 some (((),(a.1.2.1.length:Int),(),()),b,((),(),()),())
noncomputable def CP:aD:=aG ad Tryz.f63 Wx Wh [0] me
theorem JZ:aA O 63 CP:=aK g0 Tryz.func63 (by kernel_rfl) ae (fun y=>by kernel_rfl) fun a=>by kernel_rfl
end Go.Proofs
namespace Go.Proofs
open Go.Shelf
def Tryz.ae8:Go.Shelf.Ren:=⟨fun|171=>64|243=>113|246=>165|283=>205|284=>206|285=>207|286=>208|129=>240|317=>239|318=>241|319=>242|320=>243|337=>269|338=>270|n=>n,fun|3=>3|9=>9|2=>2|4=>4|171=>224|0=>0|53=>155|37=>52|5=>5|173=>227|212=>244|51=>153|20=>20|213=>245|46=>203|232=>268|233=>269|n=>n,fun|17=>1|18=>3|19=>4|n=>n⟩
theorem Tryz.akH:Go.Proofs.LaysM.n171 O Tryz.ae8:={
 mixed:=by kernel_rfl
 f129:=Tryz.func240.trans (congrArg some (by kernel_rfl))
 f171:=Tryz.func64.trans (congrArg some (by kernel_rfl))
 f243:=Tryz.func113.trans (congrArg some (by kernel_rfl))
 f246:=Tryz.func165.trans (congrArg some (by kernel_rfl))
 f283:=Tryz.func205.trans (congrArg some (by kernel_rfl))
 f284:=Tryz.func206.trans (congrArg some (by kernel_rfl))
 f285:=Tryz.func207.trans (congrArg some (by kernel_rfl))
 f286:=Tryz.func208.trans (congrArg some (by kernel_rfl))
 f317:=Tryz.func239.trans (congrArg some (by kernel_rfl))
 f318:=Tryz.func241.trans (congrArg some (by kernel_rfl))
 f319:=Tryz.func242.trans (congrArg some (by kernel_rfl))
 f320:=Tryz.func243.trans (congrArg some (by kernel_rfl))
 f337:=Tryz.func269.trans (congrArg some (by kernel_rfl))
 f338:=Tryz.func270.trans (congrArg some (by kernel_rfl))
 t0:=Tryz.underlying0
 a0:=Tryz.isAgg0
 z0:=Tryz.sizeOf0
 v0:=Tryz.zeroValue0
 t2:=Tryz.underlying2
 a2:=Tryz.isAgg2
 z2:=Tryz.sizeOf2
 v2:=Tryz.zeroValue2
 t3:=Tryz.underlying3
 a3:=Tryz.isAgg3
 z3:=Tryz.sizeOf3
 v3:=Tryz.zeroValue3
 t4:=Tryz.underlying4
 a4:=Tryz.isAgg4
 z4:=Tryz.sizeOf4
 v4:=Tryz.zeroValue4
 t5:=Tryz.underlying5
 a5:=Tryz.isAgg5
 z5:=Tryz.sizeOf5
 v5:=Tryz.zeroValue5
 t9:=Tryz.underlying9
 a9:=Tryz.isAgg9
 z9:=Tryz.sizeOf9
 v9:=Tryz.zeroValue9
 t20:=Tryz.underlying20
 a20:=Tryz.isAgg20
 z20:=Tryz.sizeOf20
 v20:=Tryz.zeroValue20
 t37:=Tryz.underlying52
 a37:=Tryz.isAgg52
 z37:=Tryz.sizeOf52
 v37:=Tryz.zeroValue52
 t46:=Tryz.underlying203
 a46:=Tryz.isAgg203
 z46:=Tryz.sizeOf203
 v46:=Tryz.zeroValue203
 t51:=Tryz.underlying153
 a51:=Tryz.isAgg153
 z51:=Tryz.sizeOf153
 v51:=Tryz.zeroValue153
 t53:=Tryz.underlying155
 a53:=Tryz.isAgg155
 z53:=Tryz.sizeOf155
 v53:=Tryz.zeroValue155
 t171:=Tryz.underlying224
 a171:=Tryz.isAgg224
 z171:=Tryz.sizeOf224
 v171:=Tryz.zeroValue224
 t173:=Tryz.underlying227
 a173:=Tryz.isAgg227
 z173:=Tryz.sizeOf227
 v173:=Tryz.zeroValue227
 t212:=Tryz.underlying244
 a212:=Tryz.isAgg244
 z212:=Tryz.sizeOf244
 v212:=Tryz.zeroValue244
 t213:=Tryz.underlying245
 a213:=Tryz.isAgg245
 z213:=Tryz.sizeOf245
 t232:=Tryz.underlying268
 a232:=Tryz.isAgg268
 z232:=Tryz.sizeOf268
 v232:=Tryz.zeroValue268
 t233:=Tryz.underlying269
 a233:=Tryz.isAgg269
 z233:=Tryz.sizeOf269
 v233:=Tryz.zeroValue269
 g17:=by kernel_rfl
 g18:=by kernel_rfl
 g19:=by kernel_rfl
 i0:=by kernel_rfl
 i2:=by kernel_rfl
 i3:=by kernel_rfl
 i4:=by kernel_rfl
 i5:=by kernel_rfl
 i9:=by kernel_rfl
 i20:=by kernel_rfl
 i37:=by kernel_rfl
 i46:=by kernel_rfl
 i51:=by kernel_rfl
 i53:=by kernel_rfl
 i171:=by kernel_rfl
 i173:=by kernel_rfl
 i212:=by kernel_rfl
 i232:=by kernel_rfl
 i233:=by kernel_rfl
 m17:=by kernel_rfl
 m18:=by kernel_rfl
 m19:=by kernel_rfl}
open Go.RowKit Go.Sort Go.Lib in
theorem Tryz.strconv_Itoa(n:Int)(h0:-9223372036854775808<=n)(h1:n<=9223372036854775807)(w:World)(asV:Lib.TabIs O w "internal/strconv.uint64pow10" .u64 Lib.pow10Tab):
  Calls O 64 #[.int .i64 n] w fun e w'=>e=.returned (.string ⟨(Lib.itoa n).toArray⟩)/\∃k os,w'=grow (w.drewN k) os:=Any.strconv_Itoa Tryz.akH n h0 h1 w asV
def Tryz.afZ:Go.Shelf.Ren:=⟨fun|153=>214|152=>252|226=>253|227=>254|228=>255|137=>274|119=>275|224=>246|225=>245|217=>244|266=>271|n=>n,fun|9=>9|3=>3|4=>4|5=>5|21=>21|117=>253|116=>252|0=>0|46=>203|124=>264|n=>n,fun|n=>n⟩
theorem Tryz.amU:Go.Proofs.Lays.n153 O Tryz.afZ:={
 mixed:=by kernel_rfl
 f119:=Tryz.func275.trans (congrArg some (by kernel_rfl))
 f137:=Tryz.func274.trans (congrArg some (by kernel_rfl))
 f152:=Tryz.func252.trans (congrArg some (by kernel_rfl))
 f153:=Tryz.func214.trans (congrArg some (by kernel_rfl))
 f217:=Tryz.func244.trans (congrArg some (by kernel_rfl))
 f224:=Tryz.func246.trans (congrArg some (by kernel_rfl))
 f225:=Tryz.func245.trans (congrArg some (by kernel_rfl))
 f226:=Tryz.func253.trans (congrArg some (by kernel_rfl))
 f227:=Tryz.func254.trans (congrArg some (by kernel_rfl))
 f228:=Tryz.func255.trans (congrArg some (by kernel_rfl))
 f266:=Tryz.func271.trans (congrArg some (by kernel_rfl))
 t0:=Tryz.underlying0
 a0:=Tryz.isAgg0
 z0:=Tryz.sizeOf0
 v0:=Tryz.zeroValue0
 t3:=Tryz.underlying3
 a3:=Tryz.isAgg3
 z3:=Tryz.sizeOf3
 v3:=Tryz.zeroValue3
 t4:=Tryz.underlying4
 a4:=Tryz.isAgg4
 z4:=Tryz.sizeOf4
 v4:=Tryz.zeroValue4
 t5:=Tryz.underlying5
 a5:=Tryz.isAgg5
 z5:=Tryz.sizeOf5
 v5:=Tryz.zeroValue5
 t9:=Tryz.underlying9
 a9:=Tryz.isAgg9
 z9:=Tryz.sizeOf9
 v9:=Tryz.zeroValue9
 t21:=Tryz.underlying21
 a21:=Tryz.isAgg21
 z21:=Tryz.sizeOf21
 v21:=Tryz.zeroValue21
 t46:=Tryz.underlying203
 a46:=Tryz.isAgg203
 z46:=Tryz.sizeOf203
 v46:=Tryz.zeroValue203
 t116:=Tryz.underlying252
 a116:=Tryz.isAgg252
 z116:=Tryz.sizeOf252
 t117:=Tryz.underlying253
 a117:=Tryz.isAgg253
 z117:=Tryz.sizeOf253
 v117:=Tryz.zeroValue253
 t124:=Tryz.underlying264
 a124:=Tryz.isAgg264
 z124:=Tryz.sizeOf264
 v124:=Tryz.zeroValue264}
end Go.Proofs
namespace Go.Proofs
open Go.Jk
noncomputable def De:aD:=GV
theorem Ki:aA O 64 De:=amW (fun _ _=>enters_of Tryz.func64 (by kernel_rfl) rfl _ _) fun n h0 h1 w hw=>Tryz.strconv_Itoa n h0 h1 w (ajy (by kernel_rfl) (show oj w 1 .u64 Lib.pow10Tab from hw.2))
noncomputable abbrev auW:a_:=[(63,CP),(64,De),(105,w1)]
theorem aat:aQ O (aW ad auW):=aV ⟨JZ,Ki,z105,⟨⟩⟩
abbrev zw:Shape:=⟨[ay 3 3 0,aI 10 .entry,ag 11,ag 12],[bp 5000193 .u8 3 1,ax 3 [.dx,.own 5000193]],64⟩
abbrev Gr:List aP:=[(.exit 0,⟨[ay 3 3 0],[bp 5000193 .u8 3 1,ax 3 [.dx,.own 5000193]],64⟩)]
noncomputable def zP(y:zw.J):bG zw Gr:=
 bif(decide (y.1.2.2.2.1<y.1.2.2.1)) then
(aO y.1.2.1 y.1.2.2.2.1).bind fun a=>
(if-9223372036854775808<=a.mode/\a.mode<=9223372036854775807 then some () else none).bind fun b=>
 bif(a.kind==(1:Int)) then
(bZ ([100,105,114,32]:B) (Lib.itoa a.mode)).bind fun c=>
(bZ c ([32]:B)).bind fun d=>
(bZ d a.path).bind fun e=>
(bZ e ([10]:B)).bind fun f=>
(me (((),f,()),y.2.1,((),(),()),())).bind fun g=>
 some (.inl (((),y.1.2.1,y.1.2.2.1,(IntKind.i64.wrap (y.1.2.2.2.1+(1:Int))),()),g.2.1,((),(),()),()))
else
 bif(a.kind==(2:Int)) then
(bZ ([102,105,108,101,32]:B) (Lib.itoa a.mode)).bind fun h=>
(bZ h ([32]:B)).bind fun i=>
(bZ i a.path).bind fun j=>
(bZ j ([32]:B)).bind fun k=>
(if-9223372036854775808<=(a.text.length:Int)/\(a.text.length:Int)<=9223372036854775807 then some () else none).bind fun l=>
(bZ k (Lib.itoa (a.text.length:Int))).bind fun m=>
(bZ m ([10]:B)).bind fun n=>
(me (((),n,()),y.2.1,((),(),()),())).bind fun D=>
(bZ a.text ([10]:B)).bind fun p=>
(me (((),p,()),D.2.1,((),(),()),())).bind fun q=>
 some (.inl (((),y.1.2.1,y.1.2.2.1,(IntKind.i64.wrap (y.1.2.2.2.1+(1:Int))),()),q.2.1,((),(),()),()))
else
 bif(a.kind==(3:Int)) then
(bZ ([108,105,110,107,32]:B) a.path).bind fun r=>
(bZ r ([32]:B)).bind fun s=>
(bZ s a.text).bind fun t=>
(bZ t ([10]:B)).bind fun u=>
(me (((),u,()),y.2.1,((),(),()),())).bind fun v=>
 some (.inl (((),y.1.2.1,y.1.2.2.1,(IntKind.i64.wrap (y.1.2.2.2.1+(1:Int))),()),v.2.1,((),(),()),()))
else
 some (.inl (((),y.1.2.1,y.1.2.2.1,(IntKind.i64.wrap (y.1.2.2.2.1+(1:Int))),()),y.2.1,((),(),()),()))
else
 some (.inr (((),()),y.2.1,((),(),()),()))
noncomputable def GS:zw.J->Option (aB Gr):=br zP
theorem akl:aS O (am (codeOf Tryz.f120) 1 122) (aU zw Gr GS):=bH aat (by kernel_rfl) ae fun y=>by kernel_rfl
abbrev i120:Shape:=⟨[aI 0 .entry],[],64⟩
abbrev YS:Shape:=⟨[aj 2],[],64⟩
noncomputable def f120(a:i120.J):Option YS.J:=
(f105 ((a.1.1,()),())).bind fun b=>
 bif(!b.1.1) then
 some ((([]:B),()),())
else
(GS (((),a.1.1,(a.1.1.length:Int),(0:Int),()),([]:List Int),((),(),()),())).bind fun c=>
 some (((strOf c.2.1),()),())
noncomputable def _W:aD:=aG ad Tryz.f120 i120 YS [] f120
theorem asd:aA O 120 _W:=aK aat Tryz.func120 (by kernel_rfl) (a7 akl ae) (fun y=>by kernel_rfl) fun a=>by kernel_rfl
abbrev i83:Shape:=⟨[ag 0],[],28⟩
abbrev nw:Shape:=⟨[aj 2],[],28⟩
noncomputable def K7(aT:i83.J->Option nw.J):aD:=aG ad Tryz.f83 i83 nw [] aT
noncomputable abbrev ay7(aT:i83.J->Option nw.J):a_:=[(83,(K7 aT))]
theorem azO(aT:i83.J->Option nw.J)(eB:aA O 83 (K7 aT)):aQ O (aW ad (ay7 aT)):=aV ⟨eB,⟨⟩⟩
noncomputable def lI(aT:i83.J->Option nw.J)(a:i83.J):Option nw.J:=
 bif(decide (a.1.1<((-9223372036854775807):Int))) then
 some ((([45,57,50,50,51,51,55,50,48,51,54,56,53,52,55,55,53,56,48,56]:B),()),())
else
 bif(decide (a.1.1<(0:Int))) then
(aT (((IntKind.i64.wrap (0-a.1.1)),()),())).bind fun b=>
(bZ ([45]:B) b.1.1).bind fun c=>
 some ((c,()),())
else
 bif(decide (a.1.1<(10:Int))) then
 some (((strOf ([(IntKind.u8.wrap (IntKind.i64.wrap ((48:Int)+a.1.1)))]:List Int)),()),())
else
(lE .i64 a.1.1 (10:Int)).bind fun d=>
(aT ((d,()),())).bind fun e=>
(iG a.1.1 (10:Int)).bind fun f=>
(bZ e.1.1 (strOf ([(IntKind.u8.wrap (IntKind.i64.wrap ((48:Int)+f)))]:List Int))).bind fun g=>
 some ((g,()),())
theorem arb(aT:i83.J->Option nw.J)(eB:aA O 83 (K7 aT)):aA O 83 (aG ad Tryz.f83 i83 nw [] (lI aT)):=aK (azO aT eB) Tryz.func83 (by kernel_rfl) ae (fun y=>by kernel_rfl) fun a=>by kernel_rfl
noncomputable def f83:i83.J->Option nw.J:=jP lI ke
noncomputable def xQ:aD:=aG ad Tryz.f83 i83 nw [] f83
theorem Du:aA O 83 xQ:=Jn (ff:=lI) arb ke
noncomputable abbrev atU:a_:=[(83,xQ)]
theorem avi:aQ O (aW ad atU):=aV ⟨Du,⟨⟩⟩
abbrev i226:Shape:=⟨[b_ 0 [ah,aZ,aZ,ah]],[],45⟩
abbrev XF:Shape:=⟨[aj 2],[],45⟩
noncomputable def f226(a:i226.J):Option XF.J:=
 bif(a.1.1.2.1==(1:Int)) then
(f83 ((a.1.1.2.2.1,()),())).bind fun b=>
(bZ ([100,105,114,32]:B) b.1.1).bind fun c=>
(bZ c ([32]:B)).bind fun d=>
(bZ d a.1.1.1).bind fun e=>
(bZ e ([10]:B)).bind fun f=>
 some ((f,()),())
else
 bif(a.1.1.2.1==(3:Int)) then
(bZ ([108,105,110,107,32]:B) a.1.1.1).bind fun g=>
(bZ g ([32]:B)).bind fun h=>
(bZ h a.1.1.2.2.2.1).bind fun i=>
(bZ i ([10]:B)).bind fun j=>
 some ((j,()),())
else
(f83 ((a.1.1.2.2.1,()),())).bind fun k=>
(bZ ([102,105,108,101,32]:B) k.1.1).bind fun l=>
(bZ l ([32]:B)).bind fun m=>
(bZ m a.1.1.1).bind fun n=>
(bZ n ([32]:B)).bind fun D=>
(f83 (((a.1.1.2.2.2.1.length:Int),()),())).bind fun p=>
(bZ D p.1.1).bind fun q=>
(bZ q ([10]:B)).bind fun r=>
(bZ r a.1.1.2.2.2.1).bind fun s=>
(bZ s ([10]:B)).bind fun t=>
 some ((t,()),())
noncomputable def Z1:aD:=aG ad Tryz.f226 i226 XF [] f226
theorem z226:aA O 226 Z1:=aK avi Tryz.func226 (by kernel_rfl) ae (fun y=>by kernel_rfl) fun a=>by kernel_rfl
noncomputable abbrev auh:a_:=[(226,Z1)]
theorem aae:aQ O (aW ad auh):=aV ⟨z226,⟨⟩⟩
abbrev Ai:Shape:=⟨[aI 0 .entry,aj 3,ag 4],[],19⟩
abbrev HD:List aP:=[(.exit 0,⟨[aj 3],[],19⟩)]
noncomputable def A2(y:Ai.J):bG Ai HD:=
 bif(decide (y.1.2.2.1<(y.1.1.length:Int))) then
(aO y.1.1 y.1.2.2.1).bind fun a=>
(f226 (((a.path,a.kind,a.mode,a.text,()),()),())).bind fun b=>
(bZ y.1.2.1 b.1.1).bind fun c=>
 some (.inl ((y.1.1,c,(IntKind.i64.wrap (y.1.2.2.1+(1:Int))),()),()))
else
 some (.inr ((y.1.2.1,()),()))
noncomputable def Ip:Ai.J->Option (aB HD):=br A2
theorem amc:aS O (am (codeOf Tryz.f181) 1 58) (aU Ai HD Ip):=bH aae (by kernel_rfl) ae fun y=>by kernel_rfl
abbrev i181:Shape:=⟨[aI 0 .entry],[],19⟩
abbrev Yb:Shape:=⟨[aj 2],[],19⟩
noncomputable def f181(a:i181.J):Option Yb.J:=
(Ip ((a.1.1,([]:B),(0:Int),()),())).bind fun b=>
 some ((b.1.1,()),())
noncomputable def Li:aD:=aG ad Tryz.f181 i181 Yb [] f181
theorem W3:aA O 181 Li:=aK aae Tryz.func181 (by kernel_rfl) (a7 amc ae) (fun y=>by kernel_rfl) fun a=>by kernel_rfl
theorem Sa(m:Nat)(h:m<10):strOf ([(IntKind.u8.wrap (IntKind.i64.wrap ((48:Int)+(m:Int))))]:List Int)=[UInt8.ofNat (48+m)]:=by
 have:IntKind.u8.wrap (IntKind.i64.wrap ((48:Int)+(m:Int)))=((48+m:Nat):Int):=by
  rw[cS (by omega) (by omega),IntKind.wrap_u8];omega
 rw[this];rfl
theorem TO:∀n:Nat,n<10^20->(Lib.decDigits n).length<=20:=by
 have:∀(k n:Nat),n<10^(k+1)->(Lib.decDigits n).length<=k+1:=by
  intro k;induction k with
  |zero=>intro n h;rw[Lib.decDigits,dif_pos (by omega)];simp
  |succ k ih=>
   intro n h;rw[Lib.decDigits];split
   ·simp
   ·have:=ih (n/10) (by rw[Nat.pow_succ] at h;omega)
    simp;omega
 intro n h;exact this 19 n h
theorem qt(n:Nat):Lib.itoa (n:Int)=Lib.decDigits n:=by unfold Lib.itoa;rw[if_neg (by omega),Int.toNat_natCast]
theorem lm(n:Nat)(h:n<=4611686018427387904):(Lib.itoa (n:Int)).length<=20:=by rw[qt];exact TO n (by omega)
theorem ajm:∀(m:Nat),m<=4611686018427387903->∀f:Nat,m<f->jP lI f (((m:Int),()),())=some ((Lib.decDigits m,()),()):=by
 intro m;induction m using Nat.strongRecOn with
 |_ m ih=>
  intro hm f hf;obtain⟨f,rfl⟩:∃aAF,f=aAF+1:=⟨f-1,by omega⟩
  show lI (jP lI f) (((m:Int),()),())=_;have h1:decide ((m:Int)< -9223372036854775807)=false:=decide_eq_false (by omega)
  have h2:decide ((m:Int)<0)=false:=decide_eq_false (by omega)
  have h3:decide ((m:Int)<10)=decide (m<10):=by congr 1;apply propext;omega
  rw[Lib.decDigits];by_cases h:m<10
  ·rw[dif_pos h];simp only[lI,h1,h2,h3,h,decide_true,cond_true,cond_false,Sa m h]
  ·have az:lE .i64 (m:Int) 10=some ((m/10:Nat):Int):=by exact vQ rfl (by omega) (by omega) (by decide)
   have hr:iG (m:Int) 10=some ((m%10:Nat):Int):=by exact ob (by omega) (by decide)
   rw[dif_neg h];simp only[lI,h1,h2,h3,h,decide_false,cond_false,az,hr,Option.bind_some,ih (m/10) (by omega) (by omega) f (by omega),Sa (m%10) (by omega)]
   rw[dH (by have:=TO (m/10) (by omega);simp;omega)]
   rfl
theorem Hh(m:Nat)(h:m<=4611686018427387903):f83 (((m:Int),()),())=some ((Lib.itoa (m:Int),()),()):=by
 rw[qt];exact ajm m h ke (by unfold ke;omega)
def dZ(e:aw):B:=bif e.kind==1 then [100,105,114,32]++Lib.itoa e.mode++[32]++e.path++[10] else bif e.kind==3 then [108,105,110,107,32]++e.path++[32]++e.text++[10]
 else [102,105,108,101,32]++Lib.itoa e.mode++[32]++e.path++[32]++Lib.itoa (e.text.length:Int)++[10]++e.text++[10]
def da(t:List aw):B:=t.flatMap dZ
abbrev nN(e:aw):Prop:=0<=e.mode/\e.mode<=7
theorem AP{e:aw}(h:nN e):(Lib.itoa e.mode).length<=20:=by
 obtain⟨n,hn⟩:=Int.eq_ofNat_of_zero_le h.1;rw[hn];exact lm n (by have:=h.2;omega)
theorem FK{e:aw}(h:nN e)(hb:lQ e):(dZ e).length<=4194404:=by
 have h1:=AP h;have h2:=lm e.text.length (by have:=hb.2;omega)
 have h3:=hb.1;have aC:=hb.2;unfold dZ;cases e.kind==1<;>cases e.kind==3<;>simp<;>omega
theorem aji(e:aw)(h:nN e)(hb:lQ e):f226 (((e.path,(e.kind,(e.mode,(e.text,())))),()),())=some ((dZ e,()),()):=by
 have h1:=AP h;have h2:=lm e.text.length (by have:=hb.2;omega)
 have h3:=hb.1;have aC:=hb.2;obtain⟨n,hn⟩:=Int.eq_ofNat_of_zero_le h.1;have d1:=Hh n (by have:=h.2;omega)
 rw[<-hn] at d1;have d2:=Hh e.text.length (by omega)
 unfold dZ;simp only[f226];cases e.kind==1 with
 |true=>
  simp only[cond_true,d1,Option.bind_some];repeat(rw[dH (by simp;omega),Option.bind_some])
 |false=>
  cases e.kind==3 with
  |true=>
   simp only[cond_true,cond_false,Option.bind_some];repeat(rw[dH (by simp;omega),Option.bind_some])
  |false=>
   simp only[cond_false,d1,d2,Option.bind_some];repeat(rw[dH (by simp;omega),Option.bind_some])
theorem nY{aH:Type}{f:aH->B}{n:Nat}:∀{xs:List aH},(∀x,x∈xs->(f x).length<=n)->(xs.flatMap f).length<=xs.length*n:=by
 intro xs;induction xs with
 |nil=>intro _;simp
 |cons x r ih=>
  intro h;have h1:=h x List.mem_cons_self;have h2:=ih fun y hy=>h y (List.mem_cons_of_mem _ hy)
  rw[List.flatMap_cons,List.length_append,List.length_cons,Nat.add_mul];omega
theorem mR{aH:Type}(f:aH->B){xs:List aH}{i:Nat}{x:aH}(h:xs[i]? =some x):(xs.take (i+1)).flatMap f=(xs.take i).flatMap f++f x:=by
 rw[List.take_add_one,h,List.flatMap_append];simp
theorem yB{t:List aw}(hm:∀e,e∈t->nN e)(hb:iq t)(hl:t.length<=16):(da t).length<=67110464:=by
 have h1:=nY (f:=dZ) (xs:=t) (n:=4194404) fun e he=>FK (hm e he) (hb.2 e he)
 unfold da;exact Nat.le_trans h1 (by omega)
theorem qo{aH:Type}{xs:List aH}{i:Nat}{x:aH}(h:x∈xs.take i):x∈xs:=List.mem_of_mem_take h
theorem N_{t:List aw}(hm:∀e,e∈t->nN e)(hb:iq t)(hl:t.length<=16)(i:Nat):((t.take i).flatMap dZ).length<=67110464:=
 yB (t:=t.take i) (fun e he=>hm e (qo he)) ⟨Nat.le_trans (List.take_sublist i t).length_le hb.1,fun e he=>hb.2 e (qo he)⟩ (Nat.le_trans (List.take_sublist i t).length_le hl)
theorem Fi(t:List aw)(hm:∀e,e∈t->nN e)(hb:iq t)(hl:t.length<=16):f181 ((t,()),())=some ((da t,()),()):=by
 have aE:Ip ((t,(([]:B),((0:Int),()))),())=some ((da t,()),()):=by
  refine fB (g:=A2) (fun i=>((t,((t.take i).flatMap dZ,((i:Int),()))),())) t.length (fun i hi=>?_) ?_ t.length 0 (by omega)
  ·obtain⟨e,he⟩:∃e,t[i]? =some e:=⟨t[i],List.getElem?_eq_getElem hi⟩;have en:=List.mem_of_getElem? he;have:=N_ hm hb hl i;have ht:=FK (hm e en) (hb.2 e en);simp only[A2,ce hi,cond_true,b4,he,Option.bind_some,aji e (hm e en) (hb.2 e en)];rw[dH (by omega),bU (by unfold ar;omega),mR dZ he]
   rfl
  ·simp only[A2,du,cond_false,List.take_length];rfl
 simp only[f181,aE,Option.bind_some]
theorem sy{n a b:Int}(h:within n a b=true):a<=n/\n<=b:=by
 unfold within at h;simpa using h
theorem G7{e:aw}(h:eN e=true):nN e:=by
 unfold eN at h;simp only[Bool.and_eq_true] at h;have h:=h.2;cases aE:(e.kind==1) with
 |true=>
  rw[aE] at h;simp only[cond_true,Bool.and_eq_true] at h;exact sy h.1
 |false=>
  cases aF:(e.kind==2) with
  |true=>
   rw[aE,aF] at h;simp only[cond_true,cond_false,Bool.and_eq_true] at h;exact sy h.1
  |false=>
   rw[aE,aF] at h;cases bJ:(e.kind==3) with
   |true=>
    rw[bJ] at h;simp only[cond_true,cond_false,Bool.and_eq_true,beq_iff_eq] at h;exact⟨by rw[h.1];decide,by rw[h.1];decide⟩
   |false=>rw[bJ] at h;cases h
theorem u0{e:aw}(h:eN e=true):e.kind=1\/e.kind=2\/e.kind=3:=by
 unfold eN at h;simp only[Bool.and_eq_true] at h;have h:=h.2;cases aE:(e.kind==1) with
 |true=>exact .inl (eq_of_beq aE)
 |false=>
  cases aF:(e.kind==2) with
  |true=>exact .inr (.inl (eq_of_beq aF))
  |false=>
   cases bJ:(e.kind==3) with
   |true=>exact .inr (.inr (eq_of_beq bJ))
   |false=>rw[aE,aF,bJ] at h;cases h
theorem uW{t:List aw}(h:dB t=true):∀e,e∈t->eN e=true:=by
 intro e he;unfold dB at h;simp only[Bool.and_eq_true] at h;obtain⟨i,hi⟩:=List.getElem?_of_mem he;have:=zR t 0 h.1.1 i e hi;unfold iT at this;simp only[Bool.and_eq_true] at this;exact this.1
theorem pb(xs:List Int)(s:B)(h:ar (xs.length+s.length)):me (((),(s,())),(xs,(((),((),())),())))=some (((),((s.length:Int),((),()))),(xs++bytesOf s,(((),((),())),()))):=by
 simp only[me];rw[dh (by decide) (by rw[jf];exact h)]
 rfl
theorem JJ{n:Int}(h:-9223372036854775808<=n/\n<=9223372036854775807):(if-9223372036854775808<=n/\n<=9223372036854775807 then some () else none)=some ():=if_pos h
theorem aft(t:List aw)(hb:iq t):f120 ((t,()),())=some (((bif dB t then da t else []),()),()):=by
 have h0:=qi ((t,()),()) hb;simp only[f120,h0,Option.bind_some];cases fG:dB t with
 |false=>rfl
 |true=>
  have hl:=jG fG;have Zo:=uW fG;have hm:∀e,e∈t->nN e:=fun e he=>G7 (Zo e he)
  have aE:GS (((),(t,((t.length:Int),((0:Int),())))),(([]:List Int),(((),((),())),())))=some (((),()),(bytesOf (da t),(((),((),())),()))):=by
   refine fB (g:=zP) (fun i=>(((),(t,((t.length:Int),((i:Int),())))),(bytesOf ((t.take i).flatMap dZ),(((),((),())),())))) t.length (fun i hi=>?_) ?_ t.length 0 (by omega)
   ·obtain⟨e,he⟩:∃e,t[i]? =some e:=⟨t[i],List.getElem?_eq_getElem hi⟩;have en:=List.mem_of_getElem? he;have iH:=N_ hm hb hl i;have ht:=FK (hm e en) (hb.2 e en);have h1:=AP (hm e en);have h2:=lm e.text.length (by have:=(hb.2 e en).2;omega)
    have h3:=(hb.2 e en).1;have aC:=(hb.2 e en).2;have aB7:=hm e en;have i1:=JJ (n:=e.mode) ⟨by omega,by omega⟩
    have i2:=JJ (n:=(e.text.length:Int)) ⟨by omega,by omega⟩
    rw[mR dZ he,oX];simp only[zP,ce hi,cond_true,b4,he,Option.bind_some,i1,i2,bU (i:=i) (by unfold ar;omega)]
    generalize List.flatMap dZ (List.take i t)=A at iH ⊢;rcases u0 (Zo e en) with hk|hk|hk
    ·have e1:dZ e=[100,105,114,32]++Lib.itoa e.mode++[32]++e.path++[10]:=by unfold dZ;rw[hk];rfl
     rw[hk,show((1:Int)==1)=true from rfl,cond_true,e1]
     repeat(rw[dH (by simp;omega),Option.bind_some])
     rw[pb _ _ (by unfold ar;rw[jf];simp;omega)]
     rfl
    ·have e1:dZ e=[102,105,108,101,32]++Lib.itoa e.mode++[32]++e.path++[32]++Lib.itoa (e.text.length:Int)++[10]++(e.text++[10]):=by unfold dZ;rw[hk];simp
     rw[hk,show((2:Int)==1)=false from rfl,show((2:Int)==2)=true from rfl,cond_false,cond_true,e1]
     repeat(rw[dH (by simp;omega),Option.bind_some])
     rw[pb _ _ (by unfold ar;rw[jf];simp;omega),Option.bind_some]
     rw[dH (by simp;omega),Option.bind_some]
     rw[pb _ _ (by unfold ar;simp[jf];omega),oX _ (e.text++[10]),<-List.append_assoc]
     rfl
    ·have e1:dZ e=[108,105,110,107,32]++e.path++[32]++e.text++[10]:=by unfold dZ;rw[hk];rfl
     rw[hk,show((3:Int)==1)=false from rfl,show((3:Int)==2)=false from rfl,show((3:Int)==3)=true from rfl,cond_false,cond_false,cond_true,e1]
     repeat(rw[dH (by simp;omega),Option.bind_some])
     rw[pb _ _ (by unfold ar;rw[jf];simp;omega)]
     rfl
   ·simp only[zP,du,cond_false,List.take_length];rfl
  simp only[Bool.not_true,cond_false,cond_true,aE,Option.bind_some,uT]
noncomputable abbrev auX:a_:=[(102,w3)]
theorem avG:aQ O (aW ad auX):=aV ⟨CV,⟨⟩⟩
abbrev i119:Shape:=⟨[b_ 0 [ah,aZ,ah]],[],34⟩
abbrev YT:Shape:=⟨[aj 2],[],34⟩
noncomputable def f119(a:i119.J):Option YT.J:=
(f102 (((a.1.1.1,a.1.1.2.1,a.1.1.2.2.1,()),()),())).bind fun b=>
 bif(!b.1.1) then
 some ((([]:B),()),())
else
 bif(a.1.1.2.1==(1:Int)) then
(bZ a.1.1.1 ([61]:B)).bind fun c=>
(bZ c a.1.1.2.2.1).bind fun d=>
 some ((d,()),())
else
 bif(a.1.1.2.1==(2:Int)) then
(bZ a.1.1.1 ([62,61]:B)).bind fun e=>
(bZ e a.1.1.2.2.1).bind fun f=>
 some ((f,()),())
else
 bif(a.1.1.2.1==(3:Int)) then
(bZ a.1.1.1 ([60]:B)).bind fun g=>
(bZ g a.1.1.2.2.1).bind fun h=>
 some ((h,()),())
else
 some ((a.1.1.1,()),())
noncomputable def _X:aD:=aG ad Tryz.f119 i119 YT [] f119
theorem z119:aA O 119 _X:=aK avG Tryz.func119 (by kernel_rfl) ae (fun y=>by kernel_rfl) fun a=>by kernel_rfl
abbrev i225:Shape:=⟨[ag 0],[],10⟩
abbrev XG:Shape:=⟨[aj 2],[],10⟩
noncomputable def f225(a:i225.J):Option XG.J:=
 bif(a.1.1==(1:Int)) then
 some ((([61]:B),()),())
else
 bif(a.1.1==(2:Int)) then
 some ((([62,61]:B),()),())
else
 bif(a.1.1==(3:Int)) then
 some ((([60]:B),()),())
else
 some ((([]:B),()),())
noncomputable def La:aD:=aG ad Tryz.f225 i225 XG [] f225
theorem WX:aA O 225 La:=aK g0 Tryz.func225 (by kernel_rfl) ae (fun y=>by kernel_rfl) fun a=>by kernel_rfl
noncomputable abbrev atZ:a_:=[(225,La)]
theorem avk:aQ O (aW ad atZ):=aV ⟨WX,⟨⟩⟩
abbrev i218:Shape:=⟨[b_ 0 [ah,aZ,ah]],[],12⟩
abbrev XM:Shape:=⟨[aj 2],[],12⟩
noncomputable def f218(a:i218.J):Option XM.J:=
(f225 ((a.1.1.2.1,()),())).bind fun b=>
(bZ a.1.1.1 b.1.1).bind fun c=>
(bZ c a.1.1.2.2.1).bind fun d=>
 some ((d,()),())
noncomputable def Lc:aD:=aG ad Tryz.f218 i218 XM [] f218
theorem z218:aA O 218 Lc:=aK avk Tryz.func218 (by kernel_rfl) ae (fun y=>by kernel_rfl) fun a=>by kernel_rfl
noncomputable abbrev auo:a_:=[(181,Li),(218,Lc)]
theorem aag:aQ O (aW ad auo):=aV ⟨W3,z218,⟨⟩⟩
abbrev Am:Shape:=⟨[ay 1 1 0,aj 3,ag 4],[ax 1 [ah,ah,bn .need,bn .entry]],36⟩
abbrev HH:List aP:=[(.exit 0,⟨[ay 1 1 0,aj 3],[ax 1 [ah,ah,bn .need,bn .entry]],36⟩)]
noncomputable def A3(y:Am.J):bG Am HH:=
 bif(decide (y.1.2.2.1<(y.2.1.2.2.1.length:Int))) then
(bZ y.1.2.1 ([110,101,101,100,32]:B)).bind fun a=>
(aO y.2.1.2.2.1 y.1.2.2.1).bind fun b=>
(f218 (((b.name,b.kind,b.aX,()),()),())).bind fun c=>
(bZ a c.1.1).bind fun d=>
(bZ d ([10]:B)).bind fun e=>
 some (.inl (((),e,(IntKind.i64.wrap (y.1.2.2.1+(1:Int))),()),(y.2.1.1,y.2.1.2.1,y.2.1.2.2.1,y.2.1.2.2.2.1,()),()))
else
 some (.inr (((),y.1.2.1,()),(y.2.1.1,y.2.1.2.1,y.2.1.2.2.1,y.2.1.2.2.2.1,()),()))
noncomputable def Iq:Am.J->Option (aB HH):=br A3
theorem amg:aS O (am (codeOf Tryz.f172) 1 58) (aU Am HH Iq):=bH aag (by kernel_rfl) ae fun y=>by kernel_rfl
abbrev i172:Shape:=⟨[b_ 0 [ah,ah,bn .need,bn .entry]],[],36⟩
abbrev Yh:Shape:=⟨[aj 2],[],36⟩
noncomputable def f172(a:i172.J):Option Yh.J:=
(bZ ([112,97,99,107,32]:B) a.1.1.1).bind fun b=>
(bZ b ([32]:B)).bind fun c=>
(bZ c a.1.1.2.1).bind fun d=>
(bZ d ([10]:B)).bind fun e=>
(Iq (((),e,(0:Int),()),(a.1.1.1,a.1.1.2.1,a.1.1.2.2.1,a.1.1.2.2.2.1,()),())).bind fun f=>
(bZ f.1.2.1 ([10]:B)).bind fun g=>
(f181 ((f.2.1.2.2.2.1,()),())).bind fun h=>
(bZ g h.1.1).bind fun i=>
 some ((i,()),())
noncomputable def _s:aD:=aG ad Tryz.f172 i172 Yh [] f172
theorem arV:aA O 172 _s:=aK aag Tryz.func172 (by kernel_rfl) (a7 amg ae) (fun y=>by kernel_rfl) fun a=>by kernel_rfl
noncomputable abbrev auU:a_:=[(172,_s),(173,_r)]
theorem avF:aQ O (aW ad auU):=aV ⟨arV,z173,⟨⟩⟩
abbrev i123:Shape:=⟨[b_ 0 [ah,ah,bn .need,bn .entry]],[],12⟩
abbrev YQ:Shape:=⟨[aj 2],[],12⟩
noncomputable def f123(a:i123.J):Option YQ.J:=
(f172 (((a.1.1.1,a.1.1.2.1,a.1.1.2.2.1,a.1.1.2.2.2.1,()),()),())).bind fun b=>
(f173 ((b.1.1,()),())).bind fun c=>
(bZ ([115,117,109,32]:B) c.1.1).bind fun d=>
(bZ d ([10]:B)).bind fun e=>
(bZ e b.1.1).bind fun f=>
 some ((f,()),())
noncomputable def Lr:aD:=aG ad Tryz.f123 i123 YQ [] f123
theorem W7:aA O 123 Lr:=aK avF Tryz.func123 (by kernel_rfl) ae (fun y=>by kernel_rfl) fun a=>by kernel_rfl
noncomputable abbrev azc:a_:=[(63,CP),(119,_X),(120,_W)]
theorem ac5:aQ O (aW ad azc):=aV ⟨JZ,z119,asd,⟨⟩⟩
abbrev zV:Shape:=⟨[ay 1 1 0,ay 3 3 0,aI 16 .need,ag 17,ag 18],[ax 1 [ah,ah,bn .need,bn .entry],bp 5000193 .u8 3 1,ax 3 [.dx,.own 5000193]],34⟩
abbrev Hk:List aP:=[(.exit 0,⟨[ay 1 1 0,ay 3 3 0],[ax 1 [ah,ah,bn .need,bn .entry],bp 5000193 .u8 3 1,ax 3 [.dx,.own 5000193]],34⟩)]
noncomputable def AU(y:zV.J):bG zV Hk:=
 bif(decide (y.1.2.2.2.2.1<y.1.2.2.2.1)) then
(aO y.1.2.2.1 y.1.2.2.2.2.1).bind fun a=>
(f119 (((a.name,a.kind,a.aX,()),()),())).bind fun b=>
(bZ ([110,101,101,100,32]:B) b.1.1).bind fun c=>
(bZ c ([10]:B)).bind fun d=>
(me (((),d,()),y.2.2.1,((),(),()),())).bind fun e=>
 some (.inl (((),(),y.1.2.2.1,y.1.2.2.2.1,(IntKind.i64.wrap (y.1.2.2.2.2.1+(1:Int))),()),(y.2.1.1,y.2.1.2.1,y.2.1.2.2.1,y.2.1.2.2.2.1,()),e.2.1,((),(),()),()))
else
 some (.inr (((),(),()),(y.2.1.1,y.2.1.2.1,y.2.1.2.2.1,y.2.1.2.2.2.1,()),y.2.2.1,((),(),()),()))
noncomputable def Ib:zV.J->Option (aB Hk):=br AU
theorem alK:aS O (am (codeOf Tryz.f68) 1 122) (aU zV Hk Ib):=bH ac5 (by kernel_rfl) ae fun y=>by kernel_rfl
abbrev i68:Shape:=⟨[b_ 0 [ah,ah,bn .need,bn .entry]],[],34⟩
abbrev aa6:Shape:=⟨[aj 2],[],34⟩
noncomputable def f68(a:i68.J):Option aa6.J:=
(bZ ([112,97,99,107,32]:B) a.1.1.1).bind fun b=>
(bZ b ([32]:B)).bind fun c=>
(bZ c a.1.1.2.1).bind fun d=>
(bZ d ([10]:B)).bind fun e=>
(me (((),e,()),([]:List Int),((),(),()),())).bind fun f=>
(Ib (((),(),a.1.1.2.2.1,(a.1.1.2.2.1.length:Int),(0:Int),()),(a.1.1.1,a.1.1.2.1,a.1.1.2.2.1,a.1.1.2.2.2.1,()),f.2.1,((),(),()),())).bind fun g=>
(f120 ((g.2.1.2.2.2.1,()),())).bind fun h=>
(bZ ([10]:B) h.1.1).bind fun i=>
(me (((),i,()),g.2.2.1,((),(),()),())).bind fun j=>
 some (((strOf j.2.1),()),())
noncomputable def acF:aD:=aG ad Tryz.f68 i68 aa6 [] f68
theorem avW:aA O 68 acF:=aK ac5 Tryz.func68 (by kernel_rfl) (a7 alK ae) (fun y=>by kernel_rfl) fun a=>by kernel_rfl
noncomputable abbrev azt:a_:=[(55,D'),(68,acF),(69,acE)]
theorem azW:aQ O (aW ad azt):=aV ⟨LJ,avW,avV,⟨⟩⟩
abbrev i36:Shape:=⟨[b_ 0 [ah,ah,bn .need,bn .entry]],[],15⟩
abbrev abm:Shape:=⟨[aj 2],[],15⟩
noncomputable def f36(a:i36.J):Option abm.J:=
(f55 (((a.1.1.1,a.1.1.2.1,a.1.1.2.2.1,a.1.1.2.2.2.1,()),()),())).bind fun b=>
 bif(!b.1.1) then
 some ((([]:B),()),())
else
(f68 (((a.1.1.1,a.1.1.2.1,a.1.1.2.2.1,a.1.1.2.2.2.1,()),()),())).bind fun c=>
(f69 ((c.1.1,()),())).bind fun d=>
(bZ ([115,117,109,32]:B) d.1.1).bind fun e=>
(bZ e ([10]:B)).bind fun f=>
(bZ f c.1.1).bind fun g=>
 some ((g,()),())
noncomputable def Ed:aD:=aG ad Tryz.f36 i36 abm [] f36
theorem LM:aA O 36 Ed:=aK azW Tryz.func36 (by kernel_rfl) ae (fun y=>by kernel_rfl) fun a=>by kernel_rfl
noncomputable abbrev aza:a_:=[(83,xQ),(123,Lr)]
theorem ac4:aQ O (aW ad aza):=aV ⟨Du,W7,⟨⟩⟩
abbrev BG:Shape:=⟨[ay 1 1 0,aj 3,ag 4],[ax 1 [bn .pack]],28⟩
abbrev Jd:List aP:=[(.exit 0,⟨[aj 3],[],28⟩)]
noncomputable def B7(y:BG.J):bG BG Jd:=
 bif(decide (y.1.2.2.1<(y.2.1.1.length:Int))) then
(aO y.2.1.1 y.1.2.2.1).bind fun a=>
(f123 (((a.name,a.aX,a.bi,a.bx,()),()),())).bind fun b=>
(f83 (((b.1.1.length:Int),()),())).bind fun c=>
(bZ y.1.2.1 c.1.1).bind fun d=>
(bZ d ([10]:B)).bind fun e=>
(bZ e b.1.1).bind fun f=>
 some (.inl (((),f,(IntKind.i64.wrap (y.1.2.2.1+(1:Int))),()),(y.2.1.1,()),()))
else
 some (.inr ((y.1.2.1,()),()))
noncomputable def JC:BG.J->Option (aB Jd):=br B7
theorem aoi:aS O (am (codeOf Tryz.f70) 1 58) (aU BG Jd JC):=bH ac4 (by kernel_rfl) ae fun y=>by kernel_rfl
abbrev i70:Shape:=⟨[b_ 0 [bn .pack]],[],28⟩
abbrev aa4:Shape:=⟨[aj 2],[],28⟩
noncomputable def f70(a:i70.J):Option aa4.J:=
(JC (((),([]:B),(0:Int),()),(a.1.1.1,()),())).bind fun b=>
 some ((b.1.1,()),())
noncomputable def D_:aD:=aG ad Tryz.f70 i70 aa4 [] f70
theorem z70:aA O 70 D_:=aK ac4 Tryz.func70 (by kernel_rfl) (a7 aoi ae) (fun y=>by kernel_rfl) fun a=>by kernel_rfl
noncomputable abbrev azs:a_:=[(30,ux),(70,D_)]
theorem azV:aQ O (aW ad azs):=aV ⟨w9,z70,⟨⟩⟩
abbrev i37:Shape:=⟨[b_ 0 [bn .pack]],[],8⟩
abbrev abl:Shape:=⟨[aj 2],[],8⟩
noncomputable def f37(a:i37.J):Option abl.J:=
(f30 (((a.1.1.1,()),()),())).bind fun b=>
 bif(!b.1.1) then
 some ((([]:B),()),())
else
(f70 (((a.1.1.1,()),()),())).bind fun c=>
 some ((c.1.1,()),())
noncomputable def Ec:aD:=aG ad Tryz.f37 i37 abl [] f37
theorem z37:aA O 37 Ec:=aK azV Tryz.func37 (by kernel_rfl) ae (fun y=>by kernel_rfl) fun a=>by kernel_rfl
def dO(k:Int):B:=bif k==1 then [61] else bif k==2 then [62,61] else bif k==3 then [60] else []
theorem FB(k:Int):(dO k).length<=2:=by unfold dO;cases k==1<;>cases k==2<;>cases k==3<;>decide
def cK(n:bv):B:=n.name++dO n.kind++n.aX
theorem Q2(k:Int):f225 ((k,()),())=some ((dO k,()),()):=by
 simp only[f225,dO];cases k==1<;>cases k==2<;>cases k==3<;>rfl
theorem Gy{n:bv}(hb:xV n):(cK n).length<=4194306:=by
 have:=FB n.kind;have h1:=hb.1;have h2:=hb.2;unfold cK;simp;omega
theorem Se(n:bv)(hb:xV n):f218 (((n.name,(n.kind,(n.aX,()))),()),())=some ((cK n,()),()):=by
 have:=FB n.kind;have h1:=hb.1;have h2:=hb.2;have axr:=Q2 n.kind;simp only[f218,axr,Option.bind_some];rw[dH (by omega),Option.bind_some,dH (by simp;omega)]
 rfl
theorem agR{n:bv}(h:dC n=true)(h1:(n.kind==1)=false)(h2:(n.kind==2)=false)(h3:(n.kind==3)=false):n.aX=[]:=by
 unfold dC at h;simp only[Bool.and_eq_true,Bool.or_eq_true] at h;rcases h.2 with h|h
 ·exact eq_of_beq h.2
 ·have:=sy h.1;simp at h1 h2 h3;omega
theorem ahE(n:bv)(hb:xV n)(fG:dC n=true):f119 (((n.name,(n.kind,(n.aX,()))),()),())=some ((cK n,()),()):=by
 have h0:=yI (((n.name,(n.kind,(n.aX,()))),()),()) hb.1 hb.2;have h0:f102 (((n.name,(n.kind,(n.aX,()))),()),())=some ((dC n,()),()):=h0;have h1:=hb.1;have h2:=hb.2;simp only[f119,h0,fG,Option.bind_some,Bool.not_true,cond_false,cK,dO];cases aE:(n.kind==1) with
 |true=>
  simp only[cond_true];rw[dH (by simp;omega),Option.bind_some,dH (by simp;omega)]
  rfl
 |false=>
  cases aF:(n.kind==2) with
  |true=>
   simp only[cond_true,cond_false];rw[dH (by simp;omega),Option.bind_some,dH (by simp;omega)]
   rfl
  |false=>
   cases bJ:(n.kind==3) with
   |true=>
    simp only[cond_true,cond_false];rw[dH (by simp;omega),Option.bind_some,dH (by simp;omega)]
    rfl
   |false=>simp only[cond_false,agR fG aE aF bJ,List.append_nil]
def cz(n:bv):B:=[110,101,101,100,32]++cK n++[10]
theorem aix{n:bv}(hb:xV n):(cz n).length<=4194312:=by
 have:=Gy hb;unfold cz;simp;omega
def ij(p:aL):B:=[112,97,99,107,32]++p.name++[32]++p.aX++[10]
def dt(p:aL):B:=ij p++p.bi.flatMap cz++[10]++da p.bx
def bA(p:aL):B:=[115,117,109,32]++pz (dt p)++[10]++dt p
def dD(s:B):B:=Lib.itoa (s.length:Int)++[10]++s
def dd(ps:List aL):B:=ps.flatMap fun p=>dD (bA p)
theorem mQ{p:aL}(h:ch p=true):iz p.name=true/\ej p.aX=true/\(∀n,n∈p.bi->dC n=true)/\p.bi.length<=6/\jU [] (p.name::p.bi.map (·.name))=false/\dB p.bx=true:=by
 unfold ch at h;simp only[Bool.and_eq_true] at h;obtain⟨⟨⟨h1,h2⟩,h3⟩,aC⟩:=h;unfold qG at h3;simp only[Bool.and_eq_true,decide_eq_true_eq,List.all_eq_true,Bool.not_eq_true'] at h3;exact⟨h1,h2,h3.1.1,h3.1.2,h3.2,aC⟩
theorem qj{t:List aw}(h:dB t=true):∀e,e∈t->nN e:=fun e he=>G7 (uW h e he)
theorem uR{ns:List bv}(hb:tR ns)(hl:ns.length<=6)(i:Nat):((ns.take i).flatMap cz).length<=25165872:=by
 have h1:=nY (f:=cz) (xs:=ns.take i) (n:=4194312) fun n hn=>aix (hb.2 n (qo hn))
 have h2:=(List.take_sublist i ns).length_le;exact Nat.le_trans h1 (by omega)
theorem F6{p:aL}(hb:jB p)(hk:ch p=true):(dt p).length<=100663296:=by
 obtain⟨_,_,_,ca,_,au⟩:=mQ hk;have h1:=uR hb.2.2.1 ca p.bi.length;rw[List.take_length] at h1;have h2:=yB (qj au) hb.2.2.2 (jG au);have h3:=hb.1;have aC:=hb.2.1;unfold dt ij;generalize p.bi.flatMap cz=A at h1 ⊢;generalize da p.bx=bq at h2 ⊢;simp;omega
theorem Gx{p:aL}(hb:jB p)(hk:ch p=true):(bA p).length<=100663400:=by
 have:=F6 hb hk;unfold bA;generalize dt p=bq at this ⊢;simp[zc];omega
theorem ajf(p:aL)(hb:jB p)(hk:ch p=true):f172 (((p.name,(p.aX,(p.bi,(p.bx,())))),()),())=some ((dt p,()),()):=by
 obtain⟨_,_,hn,ca,_,au⟩:=mQ hk;have h3:=hb.1;have aC:=hb.2.1;have Ep:=Fi p.bx (qj au) hb.2.2.2 (jG au);have axM:(ij p).length<=4194320:=by unfold ij;simp;omega
 have aE:Iq (((),(ij p,((0:Int),()))),((p.name,(p.aX,(p.bi,(p.bx,())))),()))=some (((),(ij p++p.bi.flatMap cz,())),((p.name,(p.aX,(p.bi,(p.bx,())))),())):=by
  have:=fB (g:=A3) (fun i=>(((),(ij p++(p.bi.take i).flatMap cz,((i:Int),()))),((p.name,(p.aX,(p.bi,(p.bx,())))),()))) p.bi.length (b:=(((),(ij p++p.bi.flatMap cz,())),((p.name,(p.aX,(p.bi,(p.bx,())))),()))) (fun i hi=>?_) ?_ p.bi.length 0 (by omega)
  ·rw[List.take_zero,List.flatMap_nil,List.append_nil] at this;exact this
  ·obtain⟨n,he⟩:∃n,p.bi[i]? =some n:=⟨p.bi[i],List.getElem?_eq_getElem hi⟩;have en:=List.mem_of_getElem? he;have iH:=uR hb.2.2.1 ca i;have ht:=Gy (hb.2.2.1.2 n en);simp only[A3,ce hi,cond_true,b4,he,Option.bind_some,Se n (hb.2.2.1.2 n en),mR cz he,bU (i:=i) (by unfold ar;omega)]
   generalize List.flatMap cz (List.take i p.bi)=A at iH ⊢;rw[dH (by simp;omega),Option.bind_some,dH (by simp;omega),Option.bind_some,dH (by simp;omega),Option.bind_some]
   simp only[cz,List.append_assoc]
  ·simp only[A3,du,cond_false,List.take_length]
 have iH:=uR hb.2.2.1 ca p.bi.length;rw[List.take_length] at iH;have h2:=yB (qj au) hb.2.2.2 (jG au);have bL:ij p=[112,97,99,107,32]++p.name++[32]++p.aX++[10]:=rfl;simp only[f172];repeat(rw[dH (by simp;omega),Option.bind_some])
 rw[<-bL,aE];simp only[Option.bind_some,dt];generalize p.bi.flatMap cz=A at iH ⊢;rw[dH (by simp;omega),Option.bind_some,Ep,Option.bind_some]
 generalize da p.bx=bq at h2 ⊢;rw[dH (by simp;omega)]
 rfl
theorem He(p:aL)(hb:jB p)(hk:ch p=true):f123 (((p.name,(p.aX,(p.bi,(p.bx,())))),()),())=some ((bA p,()),()):=by
 have hl:=F6 hb hk;have h1:=ap3 (dt p) (by unfold qb;omega)
 have hs:=zc (dt p);simp only[f123,ajf p hb hk,h1,Option.bind_some,bA];generalize pz (dt p)=S at hs ⊢;generalize dt p=bq at hl ⊢;rw[dH (by simp;omega),Option.bind_some,dH (by simp;omega),Option.bind_some,dH (by simp;omega)]
 rfl
theorem agj(p:aL)(hb:jB p)(hk:ch p=true):f68 (((p.name,(p.aX,(p.bi,(p.bx,())))),()),())=some ((dt p,()),()):=by
 obtain⟨_,_,hn,ca,_,au⟩:=mQ hk;have h3:=hb.1;have aC:=hb.2.1;have Ep:=aft p.bx hb.2.2.2;rw[au] at Ep;have axM:(ij p).length<=4194320:=by unfold ij;simp;omega
 have aE:Ib (((),((),(p.bi,((p.bi.length:Int),((0:Int),()))))),((p.name,(p.aX,(p.bi,(p.bx,())))),(bytesOf (ij p),(((),((),())),()))))=some (((),((),())),((p.name,(p.aX,(p.bi,(p.bx,())))),(bytesOf (ij p++p.bi.flatMap cz),(((),((),())),())))):=by
  have:=fB (g:=AU) (fun i=>(((),((),(p.bi,((p.bi.length:Int),((i:Int),()))))),((p.name,(p.aX,(p.bi,(p.bx,())))),(bytesOf (ij p++(p.bi.take i).flatMap cz),(((),((),())),()))))) p.bi.length (b:=(((),((),())),((p.name,(p.aX,(p.bi,(p.bx,())))),(bytesOf (ij p++p.bi.flatMap cz),(((),((),())),()))))) (fun i hi=>?_) ?_ p.bi.length 0 (by omega)
  ·rw[List.take_zero,List.flatMap_nil,List.append_nil] at this;exact this
  ·obtain⟨n,he⟩:∃n,p.bi[i]? =some n:=⟨p.bi[i],List.getElem?_eq_getElem hi⟩;have en:=List.mem_of_getElem? he;have iH:=uR hb.2.2.1 ca i;have ht:=Gy (hb.2.2.1.2 n en);simp only[AU,ce hi,cond_true,b4,he,Option.bind_some,ahE n (hb.2.2.1.2 n en) (hn n en),mR cz he,bU (i:=i) (by unfold ar;omega)]
   generalize List.flatMap cz (List.take i p.bi)=A at iH ⊢;rw[dH (by simp;omega),Option.bind_some,dH (by simp;omega),Option.bind_some,pb _ _ (by unfold ar;rw[jf];simp;omega),Option.bind_some,<-List.append_assoc,oX (ij p++A)]
   rfl
  ·simp only[AU,du,cond_false,List.take_length]
 have iH:=uR hb.2.2.1 ca p.bi.length;rw[List.take_length] at iH;have h2:=yB (qj au) hb.2.2.2 (jG au);have bL:ij p=[112,97,99,107,32]++p.name++[32]++p.aX++[10]:=rfl;simp only[f68];repeat(rw[dH (by simp;omega),Option.bind_some])
 rw[<-bL,pb _ _ (by unfold ar;simp;omega),Option.bind_some]
 simp only[List.nil_append,aE,Option.bind_some,Ep,cond_true,dt];generalize p.bi.flatMap cz=A at iH ⊢;generalize da p.bx=bq at h2 ⊢;rw[dH (by simp;omega),Option.bind_some,pb _ _ (by unfold ar;rw[jf];simp;omega),Option.bind_some]
 rw[<-oX,uT,List.append_assoc _ [10] bq]
theorem yr(p:aL)(hb:jB p):f36 (((p.name,(p.aX,(p.bi,(p.bx,())))),()),())=some ((bif ch p then bA p else [],()),()):=by
 have h0:=yH (((p.name,(p.aX,(p.bi,(p.bx,())))),()),()) hb;have h0:f55 (((p.name,(p.aX,(p.bi,(p.bx,())))),()),())=some ((ch p,()),()):=h0;simp only[f36,h0,Option.bind_some];cases hk:ch p with
 |false=>rfl
 |true=>
  have hl:=F6 hb hk;have h1:=anV (dt p) (by unfold qb;omega)
  have hs:=zc (dt p);simp only[Bool.not_true,cond_false,cond_true,agj p hb hk,h1,Option.bind_some,bA];generalize pz (dt p)=S at hs ⊢;generalize dt p=bq at hl ⊢;rw[dH (by simp;omega),Option.bind_some,dH (by simp;omega),Option.bind_some,dH (by simp;omega)]
  rfl
theorem P8{p:aL}(hb:jB p)(hk:ch p=true):(dD (bA p)).length<=100663500:=by
 have h1:=Gx hb hk;have h2:=lm (bA p).length (by omega)
 unfold dD;simp;omega
theorem aei{ps:List aL}(hb:gp ps)(hk:∀p,p∈ps->ch p=true)(i:Nat):((ps.take i).flatMap fun p=>dD (bA p)).length<=211106660352000:=by
 have h1:=nY (f:=fun p=>dD (bA p)) (xs:=ps.take i) (n:=100663500) fun p hp=>P8 (hb.2 p (qo hp)) (hk p (qo hp))
 have h2:=(List.take_sublist i ps).length_le;have h3:ps.length<=2097152:=hb.1;have aC:(ps.take i).length*100663500<=2097152*100663500:=Nat.mul_le_mul_right _ (by omega)
 omega
theorem Hd(ps:List aL)(hb:gp ps)(hk:∀p,p∈ps->ch p=true):f70 (((ps,()),()),())=some ((dd ps,()),()):=by
 have aE:JC (((),(([]:B),((0:Int),()))),((ps,()),()))=some ((dd ps,()),()):=by
  refine fB (g:=B7) (fun i=>(((),((ps.take i).flatMap (fun p=>dD (bA p)),((i:Int),()))),((ps,()),()))) ps.length (fun i hi=>?_) ?_ ps.length 0 (by omega)
  ·obtain⟨p,he⟩:∃p,ps[i]? =some p:=⟨ps[i],List.getElem?_eq_getElem hi⟩;have en:=List.mem_of_getElem? he;have iH:=aei hb hk i;have ht:=Gx (hb.2 p en) (hk p en);have h2:=lm (bA p).length (by omega)
   have oB:=hb.1;simp only[B7,ce hi,cond_true,b4,he,Option.bind_some,He p (hb.2 p en) (hk p en),Hh (bA p).length (by omega),mR (fun p=>dD (bA p)) he,bU (i:=i) (by unfold ar;omega)]
   generalize List.flatMap (fun p=>dD (bA p)) (List.take i ps)=A at iH ⊢
   rw[dH (by omega),Option.bind_some,dH (by simp;omega),Option.bind_some,dH (by simp;omega),Option.bind_some]
   simp only[dD,List.append_assoc]
  ·simp only[B7,du,cond_false,List.take_length];rfl
 simp only[f70,aE,Option.bind_some]
theorem mO{ps:List aL}(h:fe ps=true):(∀p,p∈ps->ch p=true)/\ps.length<=5:=by
 unfold fe at h;simp only[Bool.and_eq_true,decide_eq_true_eq,List.all_eq_true] at h;exact⟨h.1.1.1.1,h.1.1.2⟩
theorem PM(ps:List aL)(hb:gp ps)(hv:lX ps):f37 (((ps,()),()),())=some ((bif fe ps then dd ps else [],()),()):=by
 have h0:=za (((ps,()),()),()) hb hv;have h0:f30 (((ps,()),()),())=some ((fe ps,()),()):=h0;simp only[f37,h0,Option.bind_some];cases hr:fe ps with
 |false=>rfl
 |true=>simp only[Bool.not_true,cond_false,cond_true,Hd ps hb (mO hr).1,Option.bind_some]
def b'(c:UInt8)(s:B):Prop:=∀x,x∈s->x≠c
theorem b'.cY{c:UInt8}{s t:B}(h:b' c s)(k:b' c t):b' c (s++t):=fun x hx=>(List.mem_append.1 hx).elim (h x) (k x)
theorem b'.nil(c:UInt8):b' c []:=fun x hx=>by cases hx
theorem b'.tail{c b:UInt8}{s:B}(h:b' c (b::s)):b' c s:=fun x hx=>h x (List.mem_cons_of_mem _ hx)
theorem b'.head{c b:UInt8}{s:B}(h:b' c (b::s)):(b==c)=false:=by
 have:=h b List.mem_cons_self;simpa using this
theorem b'.lit{c:UInt8}{s:B}(h:s.all (fun x=>!(x==c))=true):b' c s:=fun x hx=>by
 have:=List.all_eq_true.1 h x hx;simpa using this
theorem P7{c:UInt8}:∀{s:B},b' c s->bF c s=[s]:=by
 intro s;induction s with
 |nil=>intro _;rfl
 |cons b r ih=>
  intro h;unfold bF;rw[h.head,ih h.tail];rfl
theorem OF(c b:UInt8)(r:B):bF c (b::r)=bif b==c then []::bF c r else match bF c r with|x::xs=>(b::x)::xs|[]=>[[b]]:=rfl
theorem si{c:UInt8}{b:B}:∀{a:B},b' c a->bF c (a++c::b)=a::bF c b:=by
 intro a;induction a with
 |nil=>intro _;show bF c (c::b)=_;rw[OF,beq_self_eq_true];rfl
 |cons x r ih=>
  intro h;show bF c (x::(r++c::b))=_;rw[OF,h.head,ih h.tail];rfl
theorem Pa{c x:UInt8}:∀{s:B},x∈s->x≠c->∃p,p∈bF c s/\x∈p:=by
 intro s;induction s with
 |nil=>intro h;cases h
 |cons b r ih=>
  intro h hx;unfold bF;cases hb:b==c with
  |true=>
   have hb:=eq_of_beq hb;rcases List.mem_cons.1 h with rfl|h
   ·exact absurd hb hx
   ·obtain⟨p,h1,h2⟩:=ih h hx;exact⟨p,List.mem_cons_of_mem _ h1,h2⟩
  |false=>
   simp only[cond_false];have hne:=oY c r;split
   ·rename_i y bj hy;rcases List.mem_cons.1 h with rfl|h
    ·exact⟨_,List.mem_cons_self,List.mem_cons_self⟩
    ·obtain⟨p,h1,h2⟩:=ih h hx;rw[hy] at h1;rcases List.mem_cons.1 h1 with rfl|h1
     ·exact⟨_,List.mem_cons_self,List.mem_cons_of_mem _ h2⟩
     ·exact⟨p,List.mem_cons_of_mem _ h1,h2⟩
   ·rename_i hy;exact absurd hy hne
def dv(c:UInt8):B->Option (B×B)
 |[]=>none
 |b::r=>bif b==c then some ([],r) else match dv c r with
  |some (x,y)=>some (b::x,y)
  |none=>none
theorem anj{c:UInt8}:∀{s:B},b' c s->dv c s=none:=by
 intro s;induction s with
 |nil=>intro _;rfl
 |cons b r ih=>intro h;simp only[dv,h.head,cond_false,ih h.tail]
theorem sD{c:UInt8}{b:B}:∀{a:B},b' c a->dv c (a++c::b)=some (a,b):=by
 intro a;induction a with
 |nil=>intro _;simp[dv]
 |cons x r ih=>intro h;show dv c (x::(r++c::b))=_;simp only[dv,h.head,cond_false,ih h.tail]
theorem jh{c:UInt8}:∀{s x y:B},dv c s=some (x,y)->s=x++c::y/\b' c x:=by
 intro s;induction s with
 |nil=>intro x y h;cases h
 |cons b r ih=>
  intro x y h;simp only[dv] at h;cases hb:b==c with
  |true=>
   rw[hb] at h;simp only[cond_true,Option.some.injEq,Prod.mk.injEq] at h;obtain⟨rfl,rfl⟩:=h;exact⟨by rw[eq_of_beq hb];rfl,b'.nil c⟩
  |false=>
   rw[hb] at h;simp only[cond_false] at h;split at h
   ·rename_i iv y' hc;cases h;obtain⟨h1,h2⟩:=ih hc;refine⟨by rw[h1];rfl,fun z hz=>?_⟩
    rcases List.mem_cons.1 hz with rfl|hz
    ·simpa using hb
    ·exact h2 z hz
   ·cases h
theorem ai2{c:UInt8}:∀{s:B},dv c s=none->b' c s:=by
 intro s;induction s with
 |nil=>intro _;exact b'.nil c
 |cons b r ih=>
  intro h;simp only[dv] at h;cases hb:b==c with
  |true=>rw[hb] at h;cases h
  |false=>
   rw[hb] at h;simp only[cond_false] at h;split at h
   ·cases h
   ·rename_i hc;intro z hz;rcases List.mem_cons.1 hz with rfl|hz
    ·simpa using hb
    ·exact ih hc z hz
theorem Tw(c:UInt8):∀s:B,Lib.indexByte s c=match dv c s with|some (x,_)=>(x.length:Int)|none=>-1:=by
 intro s;induction s with
 |nil=>rfl
 |cons b r ih=>
  simp only[dv];unfold Lib.indexByte;cases hb:b==c with
  |true=>simp
  |false=>
   rw[ih];simp only[cond_false];cases hc:dv c r with
   |none=>simp
   |some q=>obtain⟨x,y⟩:=q;simp
theorem Pb(c:UInt8)(s:B):bF c s=match dv c s with|some (x,y)=>x::bF c y|none=>[s]:=by
 cases h:dv c s with
 |none=>exact P7 (ai2 h)
 |some q=>
  obtain⟨x,y⟩:=q;obtain⟨h1,h2⟩:=jh h;show bF c s=x::bF c y;rw[h1];exact si h2
theorem EL{s:B}(h:iz s=true):∀x,x∈s->(97<=x.toNat/\x.toNat<=122)\/(48<=x.toNat/\x.toNat<=57):=by
 cases s with
 |nil=>cases h
 |cons b r=>
  rw[OM] at h;simp only[Bool.and_eq_true] at h;intro x hx;have:=List.all_eq_true.1 h.1.2 x hx;simp only[iU,cO,Bool.or_eq_true,Bool.and_eq_true,decide_eq_true_eq] at this;omega
theorem Qr{s:B}(h:iz s=true){c:UInt8}(hc:c.toNat<48\/(57<c.toNat/\c.toNat<97)):b' c s:=fun x hx e=>by
 have:=EL h x hx;rw[e] at this;omega
theorem aeG{s:B}(h:ej s=true):∀x,x∈s->x=46\/(48<=x.toNat/\x.toNat<=57):=by
 intro x hx;by_cases he:x=46
 ·exact .inl he
 ·obtain⟨p,h1,h2⟩:=Pa hx he;unfold ej ig at h;simp only[Bool.and_eq_true] at h;have:=List.all_eq_true.1 h.1 p h1;unfold fv at this;simp only[Bool.and_eq_true] at this;have:=iO (List.all_eq_true.1 this.1.1.1.1 x h2);exact .inr (by omega)
theorem PD{s:B}(h:ej s=true){c:UInt8}(hc:c.toNat<48\/57<c.toNat)(aa:c≠46):b' c s:=fun x hx e=>by
 rcases aeG h x hx with h1|h1
 ·exact aa (e▸h1)
 ·rw[e] at h1;omega
theorem Qs{s:B}(h:gl s=true){c:UInt8}(hc:j' c.toNat=false)(aa:c≠47):b' c s:=fun x hx e=>by
 subst e;obtain⟨p,h1,h2⟩:=Pa hx aa;unfold gl at h;simp only[Bool.and_eq_true] at h;have:=List.all_eq_true.1 h.1 p h1;unfold kf at this;simp only[Bool.and_eq_true] at this;have:=List.all_eq_true.1 this.1.1.1 x h2;rw[hc] at this;cases this
theorem IY:∀n:Nat,(Lib.decDigits n).all cO=true:=by
 intro n;induction n using Nat.strongRecOn with
 |_ n ih=>
  have aa:∀m:Nat,m<10->cO (UInt8.ofNat (48+m))=true:=fun m hm=>by
   unfold cO;have:(UInt8.ofNat (48+m)).toNat=48+m:=by rw[UInt8.toNat_ofNat'];omega
   rw[this];simp;omega
  rw[Lib.decDigits];split
  ·rename_i h;show(cO _&&true)=true;rw[aa n h];rfl
  ·rename_i h;rw[List.all_append,ih (n/10) (by omega)]
   show(true&&(cO _&&true))=true;rw[aa (n%10) (by omega)];rfl
theorem Vw(n:Nat):Lib.decDigits n≠[]:=by
 rw[Lib.decDigits];split<;>simp
theorem IX:∀n:Nat,db (Lib.decDigits n)=(n:Int):=by
 intro n;induction n using Nat.strongRecOn with
 |_ n ih=>
  have aa:∀m:Nat,m<10->((UInt8.ofNat (48+m)).toNat:Int)-48=(m:Int):=fun m hm=>by
   have:(UInt8.ofNat (48+m)).toNat=48+m:=by rw[UInt8.toNat_ofNat'];omega
   rw[this];omega
  rw[Lib.decDigits];split
  ·rename_i h;show eg 0 _=_;unfold eg;rw[aa n h];omega
  ·rename_i h;have:=ih (n/10) (by omega)
   unfold db at this ⊢;rw[List.foldl_append,this];show eg _ _=_;unfold eg;rw[aa (n%10) (by omega)];omega
theorem ai1:∀n:Nat,1<=n->∃b r,Lib.decDigits n=b::r/\((b.toNat:Int)==48)=false:=by
 intro n;induction n using Nat.strongRecOn with
 |_ n ih=>
  intro hn;rw[Lib.decDigits];split
  ·rename_i h;refine⟨_,[],rfl,?_⟩;have:(UInt8.ofNat (48+n)).toNat=48+n:=by rw[UInt8.toNat_ofNat'];omega
   rw[this,beq_eq_false_iff_ne];omega
  ·rename_i h;obtain⟨b,r,h1,h2⟩:=ih (n/10) (by omega) (by omega)
   rw[h1];exact⟨b,_,rfl,h2⟩
theorem R8(n:Nat):ii (Lib.decDigits n)=false:=by
 by_cases h:n<10
 ·rw[Lib.decDigits,dif_pos h];rfl
 ·obtain⟨b,r,h1,h2⟩:=ai1 n (by omega)
  rw[h1];cases r with
  |nil=>rfl
  |cons x r=>exact h2
theorem G9:∀(k n:Nat),n<10^(k+1)->(Lib.decDigits n).length<=k+1:=by
 intro k;induction k with
 |zero=>intro n h;rw[Lib.decDigits,dif_pos (by omega)];simp
 |succ k ih=>
  intro n h;rw[Lib.decDigits];split
  ·simp
  ·have:=ih (n/10) (by rw[Nat.pow_succ] at h;omega)
   simp;omega
theorem ao3(n:Nat){c:UInt8}(hc:c.toNat<48\/57<c.toNat):b' c (Lib.decDigits n):=fun x hx e=>by
 have:=iO (List.all_eq_true.1 (IY n) x hx);rw[e] at this;omega
theorem Tu(n:Nat){c:UInt8}(hc:c.toNat<48\/57<c.toNat):b' c (Lib.itoa (n:Int)):=by rw[qt];exact ao3 n hc
theorem ane:∀k:Nat,k<16->jr k≠10/\jr k≠32:=by decide
theorem Tx(w:Int):b' 10 (fN w):=fun x hx=>by
 simp only[fN,List.mem_cons,List.not_mem_nil,or_false] at hx;rcases hx with rfl|rfl|rfl|rfl|rfl|rfl|rfl|rfl<;>exact(ane _ (Nat.mod_lt _ (by decide))).1
theorem SD(s:B):b' 10 (pz s):=(Tx _).cY (Tx _)
def hU:B:=[100,105,114]
def hS:B:=[108,105,110,107]
def ik:B:=[102,105,108,101]
def l9(e:aw):List B:=bif e.kind==1 then [hU,Lib.itoa e.mode,e.path] else bif e.kind==3 then [hS,e.path,e.text] else [ik,Lib.itoa e.mode,e.path,Lib.itoa (e.text.length:Int)]
def lx:List B->B
 |[]=>[]
 |[x]=>x
 |x::y::r=>x++32::lx (y::r)
def pq(e:aw):B:=lx (l9 e)
theorem Pn:∀{ws:List B},ws≠[]->(∀w,w∈ws->b' 32 w)->bF 32 (lx ws)=ws:=by
 intro ws;induction ws with
 |nil=>intro h;exact absurd rfl h
 |cons x r ih=>
  intro _ h;cases r with
  |nil=>exact P7 (h x List.mem_cons_self)
  |cons y r=>
   show bF 32 (x++32::lx (y::r))=_;rw[si (h x List.mem_cons_self),ih (by simp) fun w hw=>h w (List.mem_cons_of_mem _ hw)]
theorem Tt{c:UInt8}(hc:c≠32):∀{ws:List B},(∀w,w∈ws->b' c w)->b' c (lx ws):=by
 intro ws;induction ws with
 |nil=>intro _;exact b'.nil c
 |cons x r ih=>
  intro h;cases r with
  |nil=>exact h x List.mem_cons_self
  |cons y r=>
   refine(h x List.mem_cons_self).cY fun z hz=>?_
   rcases List.mem_cons.1 hz with rfl|hz
   ·exact fun e=>hc e.symm
   ·exact ih (fun w hw=>h w (List.mem_cons_of_mem _ hw)) z hz
theorem ag8{e:aw}(h:eN e=true):gl e.path=true:=by
 unfold eN at h;simp only[Bool.and_eq_true] at h;exact h.1
theorem Fb{e:aw}(h:eN e=true)(hk:e.kind=3):gl e.text=true/\e.mode=0:=by
 unfold eN at h;rw[hk] at h;simp only[Bool.and_eq_true] at h;have h2:((e.mode==0)&&gl e.text)=true:=h.2;simp only[Bool.and_eq_true,beq_iff_eq] at h2;exact⟨h2.2,h2.1⟩
theorem QL{e:aw}(h:eN e=true)(hk:e.kind=1):e.text=[]:=by
 unfold eN at h;rw[hk] at h;simp only[Bool.and_eq_true] at h;have h2:(within e.mode 0 7&&e.text==[])=true:=h.2;simp only[Bool.and_eq_true] at h2;exact eq_of_beq h2.2
theorem Pt{e:aw}(h:eN e=true)(hk:e.kind=2):n' e.text=true:=by
 unfold eN at h;rw[hk] at h;simp only[Bool.and_eq_true] at h;have h2:(within e.mode 0 7&&n' e.text)=true:=h.2;simp only[Bool.and_eq_true] at h2;exact h2.2
theorem GB{e:aw}(h:eN e=true):∃n:Nat,e.mode=n/\n<=7:=by
 have:=G7 h;obtain⟨n,hn⟩:=Int.eq_ofNat_of_zero_le this.1;exact⟨n,hn,by have:=this.2;omega⟩
theorem BP{s:B}(h:gl s=true):b' 32 s:=Qs h (by decide) (by decide)
theorem BQ{s:B}(h:gl s=true):b' 10 s:=Qs h (by decide) (by decide)
theorem JH(n:Nat):b' 32 (Lib.itoa (n:Int)):=Tu n (by decide)
theorem BV(n:Nat):b' 10 (Lib.itoa (n:Int)):=Tu n (by decide)
theorem Fg{e:aw}(h:eN e=true):(∀w,w∈l9 e->b' 32 w)/\∀w,w∈l9 e->b' 10 w:=by
 obtain⟨n,hn,_⟩:=GB h;have hp:=ag8 h;unfold l9;rw[hn];rcases u0 h with hk|hk|hk<;>rw[hk]
 ·refine⟨fun w hw=>?_,fun w hw=>?_⟩<;>have hw:w∈[hU,Lib.itoa (n:Int),e.path]:=hw<;>simp only[List.mem_cons,List.not_mem_nil,or_false] at hw<;>rcases hw with rfl|rfl|rfl
  ·exact b'.lit (by decide)
  ·exact JH n
  ·exact BP hp
  ·exact b'.lit (by decide)
  ·exact BV n
  ·exact BQ hp
 ·refine⟨fun w hw=>?_,fun w hw=>?_⟩<;>have hw:w∈[ik,Lib.itoa (n:Int),e.path,Lib.itoa (e.text.length:Int)]:=hw<;>simp only[List.mem_cons,List.not_mem_nil,or_false] at hw<;>rcases hw with rfl|rfl|rfl|rfl
  ·exact b'.lit (by decide)
  ·exact JH n
  ·exact BP hp
  ·exact JH _
  ·exact b'.lit (by decide)
  ·exact BV n
  ·exact BQ hp
  ·exact BV _
 ·have au:=(Fb h hk).1;refine⟨fun w hw=>?_,fun w hw=>?_⟩<;>have hw:w∈[hS,e.path,e.text]:=hw<;>simp only[List.mem_cons,List.not_mem_nil,or_false] at hw<;>rcases hw with rfl|rfl|rfl
  ·exact b'.lit (by decide)
  ·exact BP hp
  ·exact BP au
  ·exact b'.lit (by decide)
  ·exact BQ hp
  ·exact BQ au
theorem akE{e:aw}(h:eN e=true):b' 10 (pq e):=Tt (by decide) (Fg h).2
def wj(e:aw)(r:B):B:=bif e.kind==2 then e.text++10::r else r
theorem akD{e:aw}(h:eN e=true)(r:B):dZ e++r=pq e++10::wj e r:=by
 unfold dZ pq l9 wj;rcases u0 h with hk|hk|hk<;>rw[hk]
 ·simp[lx,hU]
 ·simp[lx,ik]
 ·simp[lx,hS]
theorem QA{e:aw}(h:eN e=true)(r:B):dv 10 (dZ e++r)=some (pq e,wj e r):=by
 rw[akD h];exact sD (akE h)
def iB:B:=[112,97,99,107]
def fL:B:=[110,101,101,100]
def ea(p:aL):B:=lx [iB,p.name,p.aX]
theorem Xe{s:B}(h:iz s=true):b' 32 s:=Qr h (by decide)
theorem Xf{s:B}(h:iz s=true):b' 10 s:=Qr h (by decide)
theorem W8{s:B}(h:ej s=true):b' 32 s:=PD h (by decide) (by decide)
theorem W9{s:B}(h:ej s=true):b' 10 s:=PD h (by decide) (by decide)
theorem EV{p:aL}(h:ch p=true):bF 32 (ea p)=[iB,p.name,p.aX]:=by
 obtain⟨h1,h2,_⟩:=mQ h;refine Pn (by simp) fun w hw=>?_
 simp only[List.mem_cons,List.not_mem_nil,or_false] at hw;rcases hw with rfl|rfl|rfl
 ·exact b'.lit (by decide)
 ·exact Xe h1
 ·exact W8 h2
theorem RW{p:aL}(h:ch p=true):b' 10 (ea p):=by
 obtain⟨h1,h2,_⟩:=mQ h;refine Tt (by decide) fun w hw=>?_
 simp only[List.mem_cons,List.not_mem_nil,or_false] at hw;rcases hw with rfl|rfl|rfl
 ·exact b'.lit (by decide)
 ·exact Xf h1
 ·exact W9 h2
def iQ(p:aL):B:=p.bi.flatMap cz++10::da p.bx
theorem vk(p:aL):dt p=ea p++10::iQ p:=by
 unfold dt ij ea iQ;simp[lx,iB]
theorem QT{p:aL}(h:ch p=true):dv 10 (dt p)=some (ea p,iQ p):=by rw[vk];exact sD (RW h)
def eO(p:aL):B:=[115,117,109,32]++pz (dt p)
theorem vu(p:aL):bA p=eO p++10::dt p:=by unfold bA eO;simp
theorem akp(p:aL):dv 10 (bA p)=some (eO p,dt p):=by
 rw[vu];exact sD ((b'.lit (by decide)).cY (SD _))
theorem yl{n:bv}(h:dC n=true):iz n.name=true/\((n.kind=0/\n.aX=[])\/((n.kind=1\/n.kind=2\/n.kind=3)/\ej n.aX=true)):=by
 unfold dC at h;simp only[Bool.and_eq_true,Bool.or_eq_true] at h;refine⟨h.1,?_⟩;rcases h.2 with h2|h2
 ·exact .inl ⟨eq_of_beq h2.1,eq_of_beq h2.2⟩
 ·exact .inr ⟨by have:=sy h2.1;omega,h2.2⟩
theorem S3{n:bv}(h:dC n=true):b' 10 (cK n):=by
 obtain⟨h1,h2⟩:=yl h;have hs:b' 10 (dO n.kind):=by unfold dO;cases n.kind==1<;>cases n.kind==2<;>cases n.kind==3<;>exact b'.lit (by decide)
 refine((Xf h1).cY hs).cY ?_
 rcases h2 with⟨_,h2⟩|⟨_,h2⟩
 ·rw[h2];exact b'.nil _
 ·exact W9 h2
theorem aiy{n:bv}(h:dC n=true)(r:B):dv 10 (cz n++r)=some (fL++32::cK n,r):=by
 have:cz n++r=(fL++32::cK n)++10::r:=by unfold cz fL;simp
 rw[this];refine sD ((b'.lit (by decide)).cY fun z hz=>?_)
 rcases List.mem_cons.1 hz with rfl|hz
 ·decide
 ·exact S3 h z hz
theorem Js(r:B):dv 10 (10::r)=some ([],r):=by simp[dv]
theorem aiw{n:bv}{ns:List bv}{r:B}(h:dC n=true):dv 10 ((n::ns).flatMap cz++r)=some (fL++32::cK n,ns.flatMap cz++r):=by
 rw[List.flatMap_cons,List.append_assoc];exact aiy h _
theorem P9(s r:B):dv 10 (dD s++r)=some (Lib.itoa (s.length:Int),s++r):=by
 have:dD s++r=Lib.itoa (s.length:Int)++10::(s++r):=by unfold dD;simp
 rw[this];exact sD (BV _)
def fi(m:Int)(s:B):Bool:=s.all cO&&!(s==[])&&!ii s&&decide (s.length<=9)&&decide (db s<=m)
theorem yG(s:B)(m:Int)(hs:ar s.length):f115 ((s,(m,())),())=some ((bif fi m s then db s else 0,(fi m s,())),()):=by
 have key:s.length<=9->sB ((s,(m,((0:Int),((s.length:Int),((0:Int),()))))),())=some (bif allI (fun i x=>cO x) 0 s then .inr ((m,(db s,())),()) else .inl (((0:Int),(false,())),())):=by
  intro h';have:=l4 qx s (fun i n=>((s,(m,(n,((s.length:Int),((i:Int),()))))),())) (fun i x n=>some (bif cO x then .inl (eg n x) else .inr (.inl (((0:Int),(false,())),())))) (fun n=>.inr ((m,(n,())),()))
   (fun i n=>0<=n/\n<10^i/\(i<=9)) (0:Int) ⟨by decide,by decide,by decide⟩ (fun i x n hx dq=>?_) (fun n _=>?_)
  ·exact this.trans (by rw[yq];rfl)
  ·have hi:=cT hx;have hw:ar i:=by unfold ar at*;omega
   obtain⟨h0,h1,ca⟩:=dq;refine⟨?_,fun aN ak=>?_⟩
   ·simp only[qx,ce hi,cond_true,yD,b4,hx,Option.bind_some,bU hw,oH,nH,MU];cases aa:cO x with
    |false=>
     unfold cO at aa;by_cases aC:(48:Int)<=(x.toNat:Int)<;>by_cases bk:(x.toNat:Int)<=57<;>simp[aC,bk] at aa ⊢
    |true=>
     obtain⟨aC,bk⟩:=iO aa;have:=Fy (i:=i) aa (by omega) h0 h1
     simp only[aC,bk,decide_true,Bool.not_true,Bool.not_false,cond_true,cond_false,Option.bind_some,b4,hx,this,bU hw,Bool.and_true,Option.map_some]
   ·simp only[Option.some.injEq] at ak;cases az:cO x with
    |false=>rw[az] at ak;cases ak
    |true=>
     rw[az] at ak;simp only[cond_true,Sum.inl.injEq] at ak;subst ak;have:=ER az h0 h1;exact⟨this.1,this.2,by omega⟩
  ·simp only[qx,du,cond_false]
 rw[gR] at key;cases s with
 |nil=>rfl
 |cons b r=>
  have hb:aO (b::r) 0=some b:=rfl;have he:((b::r)==([]:B))=false:=rfl;have hl:decide (((b::r).length:Int)>1)=!(r==[]):=by cases r<;>simp;omega
  have h':decide (((b::r).length:Int)>9)=!decide ((b::r).length<=9):=by by_cases h:(b::r).length<=9<;>simp only[h,decide_true,decide_false,Bool.not_true,Bool.not_false,decide_eq_true_eq,decide_eq_false_iff_not]<;>omega
  have qW:ii (b::r)=(!(r==[])&&(b.toNat:Int)==48):=by cases r<;>rfl
  simp only[f115,Bc,he,hl,h',Bool.not_false,cond_true,Bool.not_not,hb,Option.bind_some];have fin:(b::r).length<=9->ii (b::r)=false->((sB ((b::r,(m,((0:Int),(((b::r).length:Int),((0:Int),()))))),())).bind fun Kq=>match Kq with
    |.inl wH=>some ((wH.1.1,(wH.1.2.1,())),())
    |.inr q6=>bif decide (q6.1.2.1>q6.1.1) then some (((0:Int),(false,())),()) else some ((q6.1.2.1,(true,())),()))=
    some ((bif fi m (b::r) then db (b::r) else 0,(fi m (b::r),())),()):=by
   intro h' j1;rw[key h'];unfold fi;rw[he,j1];cases aa:List.all (b::r) cO with
   |false=>rfl
   |true=>
    simp only[cond_true,Option.bind_some,Bool.not_false,Bool.true_and,nH];simp only[h',decide_true,Bool.true_and];cases decide (db (b::r)<=m)<;>rfl
  by_cases az:(b::r).length<=9
  ·simp only[az,decide_true,cond_true];cases hr:(r==[]) with
   |true=>
    simp only[Bool.not_true,cond_false,Option.bind_some];exact fin az (by rw[qW,hr];rfl)
   |false=>
    simp only[Bool.not_false,cond_true,Option.bind_some];cases pW:((b.toNat:Int)==48) with
    |true=>
     have:fi m (b::r)=false:=by unfold fi;rw[qW,hr,pW];simp
     rw[this];rfl
    |false=>
     simp only[cond_false];exact fin az (by rw[qW,hr,pW];rfl)
  ·have:fi m (b::r)=false:=by
    unfold fi;rw[decide_eq_false az];simp
   simp only[az,decide_false,cond_false,Option.bind_some,cond_true,this]
theorem aku{n:Nat}{m:Int}(h:(n:Int)<=m)(h':n<1000000000):fi m (Lib.decDigits n)=true:=by
 unfold fi;have h1:(Lib.decDigits n==[])=false:=by simpa using Vw n
 have h2:=G9 8 n (by omega)
 rw[IY,h1,R8,IX,decide_eq_true h2,decide_eq_true h];rfl
theorem ag0(n:Nat)(h:n<1000000):f74 ((Lib.itoa (n:Int),()),())=some (((n:Int),()),()):=by
 have h1:(Lib.decDigits n==[])=false:=by simpa using Vw n
 have h2:=G9 5 n (by omega)
 have:=Hg ((Lib.decDigits n,()),()) (show ar (Lib.decDigits n).length by unfold ar;omega)
 have this:f74 ((Lib.decDigits n,()),())=some ((bif(Lib.decDigits n).all cO&&decide ((Lib.decDigits n).length<=6)&&!(Lib.decDigits n==[])&&!ii (Lib.decDigits n) then db (Lib.decDigits n) else-1,()),()):=this
 rw[qt,this,IY,decide_eq_true h2,h1,R8,IX];rfl
def qQ{aH:Type}(D:Option aH)(R:aH->Prop):Prop:=∀a,D=some a <-> R a
theorem qQ.asw{aH:Type}{D c8:Option aH}{R:aH->Prop}(h:qQ D R)(ak:qQ c8 R):D=c8:=by
 cases D with
 |some a=>exact((ak a).2 ((h a).1 rfl)).symm
 |none=>
  cases c8 with
  |none=>rfl
  |some a=>exact(h a).2 ((ak a).1 rfl)
noncomputable abbrev auu:a_:=[(209,Ld)]
theorem avw:aQ O (aW ad auu):=aV ⟨WZ,⟨⟩⟩
abbrev i166:Shape:=⟨[aj 0,aj 1],[],23⟩
abbrev Ym:Shape:=⟨[aj 4,aj 5,ao 6],[],23⟩
noncomputable def f166(a:i166.J):Option Ym.J:=
(f209 ((a.1.1,a.1.2.1,()),())).bind fun b=>
 bif(decide (b.1.1>=(0:Int))) then
(bm a.1.1 (0:Int) b.1.1).bind fun c=>
(bm a.1.1 (IntKind.i64.wrap (b.1.1+(a.1.2.1.length:Int))) (a.1.1.length:Int)).bind fun d=>
 some ((c,d,true,()),())
else
 some ((a.1.1,([]:B),false,()),())
noncomputable def _x:aD:=aG ad Tryz.f166 i166 Ym [] f166
theorem arY:aA O 166 _x:=aK avw Tryz.func166 (by kernel_rfl) ae (fun y=>by kernel_rfl) fun a=>by kernel_rfl
noncomputable abbrev au1:a_:=[(166,_x)]
theorem avI:aQ O (aW ad au1):=aV ⟨arY,⟨⟩⟩
abbrev i114:Shape:=⟨[aj 0,aj 1],[],13⟩
abbrev YY:Shape:=⟨[aj 4,aj 5,ao 6],[],13⟩
noncomputable def f114(a:i114.J):Option YY.J:=
(f166 ((a.1.1,a.1.2.1,()),())).bind fun b=>
 some ((b.1.1,b.1.2.1,b.1.2.2.1,()),())
noncomputable def w0:aD:=aG ad Tryz.f114 i114 YY [] f114
theorem CU:aA O 114 w0:=aK avI Tryz.func114 (by kernel_rfl) ae (fun y=>by kernel_rfl) fun a=>by kernel_rfl
noncomputable def WL:aD:=I1
theorem apT:aA O 250 WL:=afk (fn:=Tryz.f250) (by kernel_rfl) (by kernel_rfl) (by kernel_rfl) (by kernel_rfl) (by kernel_rfl)
noncomputable abbrev at4:a_:=[(212,Df),(250,WL)]
theorem _9:aQ O (aW ad at4):=aV ⟨z212,apT,⟨⟩⟩
abbrev Ac:Shape:=⟨[aj 0,aj 1,ag 5],[],34⟩
abbrev Hy:List aP:=[(.ret,⟨[ag 4],[],34⟩)]
noncomputable def am6(y:Ac.J):bG Ac Hy:=
(f212 ((y.1.1,y.1.2.1,()),())).bind fun a=>
 bif(a.1.1==((-1):Int)) then
 some (.inr ((y.1.2.2.1,()),()))
else
(bm y.1.1 (IntKind.i64.wrap (a.1.1+(y.1.2.1.length:Int))) (y.1.1.length:Int)).bind fun b=>
 some (.inl ((b,y.1.2.1,(IntKind.i64.wrap (y.1.2.2.1+(1:Int))),()),()))
noncomputable def Tm:Ac.J->Option (aB Hy):=br am6
theorem al2:aS O (am (codeOf Tryz.f211) 1 62) (aU Ac Hy Tm):=bH _9 (by kernel_rfl) ae fun y=>by kernel_rfl
abbrev i211:Shape:=⟨[aj 0,aj 1],[],34⟩
abbrev XS:Shape:=⟨[ag 4],[],34⟩
noncomputable def f211(a:i211.J):Option XS.J:=
 bif((a.1.2.1.length:Int)==(0:Int)) then
 none
else
 bif((a.1.2.1.length:Int)==(1:Int)) then
(aO a.1.2.1 (0:Int)).bind fun b=>
(some ()).bind fun c=>
 some ((((Lib.countByte a.1.1 (b.toNat:Int).toNat.toUInt8:Nat):Int),()),())
else
(Tm ((a.1.1,a.1.2.1,(0:Int),()),())).bind fun d=>
 some ((d.1.1,()),())
noncomputable def Z_:aD:=aG ad Tryz.f211 i211 XS [] f211
theorem arF:aA O 211 Z_:=aK _9 Tryz.func211 (by kernel_rfl) (a7 al2 ae) (fun y=>by kernel_rfl) fun a=>by kernel_rfl
noncomputable abbrev aut:a_:=[(211,Z_),(212,Df)]
theorem Lz:aQ O (aW ad aut):=aV ⟨arF,z212,⟨⟩⟩
abbrev SX:Shape:=⟨[aj 0,aj 1,ag 2,ag 3],[],66⟩
abbrev SA:List aP:=[(.norm,⟨[aj 0,aj 1,ag 2,ag 3],[],66⟩)]
noncomputable def A4(y:SX.J):Option (aB SA):=
 bif(decide (y.1.2.2.2.1<(0:Int))) then
(f211 ((y.1.1,y.1.2.1,()),())).bind fun a=>
 some ((y.1.1,y.1.2.1,y.1.2.2.1,(IntKind.i64.wrap (a.1.1+(1:Int))),()),())
else
 some ((y.1.1,y.1.2.1,y.1.2.2.1,y.1.2.2.2.1,()),())
theorem amj:aS O (am (codeOf Tryz.f167) 1 30) (aU SX SA A4):=cd Lz (by kernel_rfl) ae fun y=>by kernel_rfl
abbrev yQ:Shape:=⟨[aj 0,aj 1,ag 2,ag 3,ba 9 3000576,ag 10],[a' 3000576 .str 9 0],66⟩
abbrev Fq:List aP:=[(.exit 0,⟨[aj 0,ba 9 3000576,ag 10],[a' 3000576 .str 9 0],66⟩)]
noncomputable def y3(y:yQ.J):bG yQ Fq:=
 bif(decide (y.1.2.2.2.2.2.1<y.1.2.2.2.1)) then
(f212 ((y.1.1,y.1.2.1,()),())).bind fun a=>
 bif(decide (a.1.1<(0:Int))) then
 some (.inr ((y.1.1,(),y.1.2.2.2.2.2.1,()),y.2.1,()))
else
(bm y.1.1 (0:Int) (IntKind.i64.wrap (a.1.1+y.1.2.2.1))).bind fun b=>
(be y.2.1.length y.1.2.2.2.2.2.1).bind fun c=>
((y.2.1[c]?).bind fun q=>some b).bind fun d=>
(bm y.1.1 (IntKind.i64.wrap (a.1.1+(y.1.2.1.length:Int))) (y.1.1.length:Int)).bind fun e=>
 some (.inl ((e,y.1.2.1,y.1.2.2.1,y.1.2.2.2.1,(),(IntKind.i64.wrap (y.1.2.2.2.2.2.1+(1:Int))),()),(y.2.1.set c d),()))
else
 some (.inr ((y.1.1,(),y.1.2.2.2.2.2.1,()),y.2.1,()))
noncomputable def u6:yQ.J->Option (aB Fq):=br y3
theorem aif:aS O (am (codeOf Tryz.f167) 1 2044) (aU yQ Fq u6):=bH Lz (by kernel_rfl) ae fun y=>by kernel_rfl
abbrev i167:Shape:=⟨[aj 0,aj 1,ag 2,ag 3],[],66⟩
abbrev Yl:Shape:=⟨[aI 8 .str],[],66⟩
noncomputable def f167(a:i167.J):Option Yl.J:=
 bif(a.1.2.2.2.1==(0:Int)) then
 some ((([]:List B),()),())
else
 bif(a.1.2.1==([]:B)) then
 none
else
(A4 ((a.1.1,a.1.2.1,a.1.2.2.1,a.1.2.2.2.1,()),())).bind fun b=>
(jY 16 (lF b.1.2.2.2.1 (IntKind.i64.wrap ((b.1.1.length:Int)+(1:Int)))) (lF b.1.2.2.2.1 (IntKind.i64.wrap ((b.1.1.length:Int)+(1:Int)))) ([]:B)).bind fun c=>
(u6 ((b.1.1,b.1.2.1,b.1.2.2.1,(IntKind.i64.wrap ((lF b.1.2.2.2.1 (IntKind.i64.wrap ((b.1.1.length:Int)+(1:Int))))-(1:Int))),(),(0:Int),()),c,())).bind fun d=>
(be d.2.1.length d.1.2.2.1).bind fun e=>
((d.2.1[e]?).bind fun q=>some d.1.1).bind fun f=>
(bm (d.2.1.set e f) (0:Int) (IntKind.i64.wrap (d.1.2.2.1+(1:Int)))).bind fun g=>
 some ((g,()),())
noncomputable def Lj:aD:=aG ad Tryz.f167 i167 Yl [] f167
theorem z167:aA O 167 Lj:=aK Lz Tryz.func167 (by kernel_rfl) (a7 amj (a7 aif ae)) (fun y=>by kernel_rfl) fun a=>by kernel_rfl
noncomputable abbrev au0:a_:=[(167,Lj)]
theorem avH:aQ O (aW ad au0):=aV ⟨z167,⟨⟩⟩
abbrev i116:Shape:=⟨[aj 0,aj 1],[],8⟩
abbrev YW:Shape:=⟨[aI 4 .str],[],8⟩
noncomputable def f116(a:i116.J):Option YW.J:=
(f167 ((a.1.1,a.1.2.1,(0:Int),((-1):Int),()),())).bind fun b=>
 some ((b.1.1,()),())
noncomputable def _0:aD:=aG ad Tryz.f116 i116 YW [] f116
theorem z116:aA O 116 _0:=aK avH Tryz.func116 (by kernel_rfl) ae (fun y=>by kernel_rfl) fun a=>by kernel_rfl
abbrev i251:Shape:=⟨[aj 0,aj 1],[],18⟩
abbrev Xy:Shape:=⟨[ao 4],[],18⟩
noncomputable def f251(a:i251.J):Option Xy.J:=
 bif(decide ((a.1.1.length:Int)>=(a.1.2.1.length:Int))) then
(bm a.1.1 (0:Int) (a.1.2.1.length:Int)).bind fun b=>
 some (((b==a.1.2.1),()),())
else
 some ((false,()),())
noncomputable def K_:aD:=aG ad Tryz.f251 i251 Xy [] f251
theorem WV:aA O 251 K_:=aK g0 Tryz.func251 (by kernel_rfl) ae (fun y=>by kernel_rfl) fun a=>by kernel_rfl
noncomputable abbrev at2:a_:=[(251,K_)]
theorem avn:aQ O (aW ad at2):=aV ⟨WV,⟨⟩⟩
abbrev i213:Shape:=⟨[aj 0,aj 1],[],15⟩
abbrev XQ:Shape:=⟨[aj 4,ao 5],[],15⟩
noncomputable def f213(a:i213.J):Option XQ.J:=
(f251 ((a.1.1,a.1.2.1,()),())).bind fun b=>
 bif(!b.1.1) then
 some ((a.1.1,false,()),())
else
(bm a.1.1 (a.1.2.1.length:Int) (a.1.1.length:Int)).bind fun c=>
 some ((c,true,()),())
noncomputable def Z9:aD:=aG ad Tryz.f213 i213 XQ [] f213
theorem z213:aA O 213 Z9:=aK avn Tryz.func213 (by kernel_rfl) ae (fun y=>by kernel_rfl) fun a=>by kernel_rfl
noncomputable abbrev aus:a_:=[(213,Z9)]
theorem avv:aQ O (aW ad aus):=aV ⟨z213,⟨⟩⟩
abbrev i168:Shape:=⟨[aj 0,aj 1],[],11⟩
abbrev Yk:Shape:=⟨[aj 4,ao 5],[],11⟩
noncomputable def f168(a:i168.J):Option Yk.J:=
(f213 ((a.1.1,a.1.2.1,()),())).bind fun b=>
 some ((b.1.1,b.1.2.1,()),())
noncomputable def _w:aD:=aG ad Tryz.f168 i168 Yk [] f168
theorem z168:aA O 168 _w:=aK avv Tryz.func168 (by kernel_rfl) ae (fun y=>by kernel_rfl) fun a=>by kernel_rfl
noncomputable abbrev at1:a_:=[(251,K_)]
theorem avm:aQ O (aW ad at1):=aV ⟨WV,⟨⟩⟩
abbrev i215:Shape:=⟨[aj 0,aj 1],[],8⟩
abbrev XP:Shape:=⟨[ao 4],[],8⟩
noncomputable def f215(a:i215.J):Option XP.J:=
(f251 ((a.1.1,a.1.2.1,()),())).bind fun b=>
 some ((b.1.1,()),())
noncomputable def Z8:aD:=aG ad Tryz.f215 i215 XP [] f215
theorem arE:aA O 215 Z8:=aK avm Tryz.func215 (by kernel_rfl) ae (fun y=>by kernel_rfl) fun a=>by kernel_rfl
noncomputable abbrev at0:a_:=[(167,Lj)]
theorem avl:aQ O (aW ad at0):=aV ⟨z167,⟨⟩⟩
abbrev i216:Shape:=⟨[aj 0,aj 1,ag 2],[],11⟩
abbrev XO:Shape:=⟨[aI 6 .str],[],11⟩
noncomputable def f216(a:i216.J):Option XO.J:=
(f167 ((a.1.1,a.1.2.1,(0:Int),a.1.2.2.1,()),())).bind fun b=>
 some ((b.1.1,()),())
noncomputable def Z7:aD:=aG ad Tryz.f216 i216 XO [] f216
theorem arD:aA O 216 Z7:=aK avl Tryz.func216 (by kernel_rfl) ae (fun y=>by kernel_rfl) fun a=>by kernel_rfl
def g'(c:UInt8)(s:B):B:=match dv c s with|some (x,_)=>x|none=>s
def g_(c:UInt8)(s:B):B:=match dv c s with|some (_,y)=>y|none=>[]
theorem QY(c:UInt8)(r:B):f209 ((r,([c],())),())=some ((Lib.indexByte r c,()),()):=by
 have h0:aO ([c]:B) (0:Int)=some c:=rfl;have h1:((([c]:B).length:Int)==0)=false:=rfl;have h2:((([c]:B).length:Int)==1)=true:=rfl;have h3:((c.toNat:Int)).toNat.toUInt8=c:=by simp
 simp only[f209,AX,f244,h0,h1,h2,h3,Bool.not_false,cond_true,cond_false,Option.bind_some,Option.bind];by_cases h:(([c]:B)==r)=true
 ·have:r=[c]:=(by simpa using h:[c]=r).symm
  subst this;simp[Lib.indexByte]<;>rfl
 ·simp[h]<;>rfl
theorem m'(c:UInt8)(s:B)(hs:ar s.length):f114 ((s,([c],())),())=some ((g' c s,(g_ c s,((dv c s).isSome,()))),()):=by
 have hi:=QY c s;rw[Tw] at hi;unfold g' g_;simp only[f114,f166,hi,Option.bind_some];cases h:dv c s with
 |none=>rfl
 |some q=>
  obtain⟨x,y⟩:=q;obtain⟨h1,_⟩:=jh h;have hl:s.length=x.length+1+y.length:=by rw[h1];simp;omega
  have aa:decide (((x.length:Nat):Int)>=0)=true:=decide_eq_true (by omega)
  have hw:IntKind.i64.wrap (((x.length:Nat):Int)+((([c]:B).length:Nat):Int))=((x.length+1:Nat):Int):=by
   rw[cS (by simp;omega) (by unfold ar at hs;simp;omega)];simp
  have e1:bm s 0 ((x.length:Nat):Int)=some x:=by rw[gj (by omega),h1];simp
  have e2:bm s ((x.length+1:Nat):Int) ((s.length:Nat):Int)=some y:=by
   rw[fc (by omega)]
   congr 1
   rw[h1,show x++c::y=(x++[c])++y by simp,List.drop_left' (by simp)]
  simp only[aa,cond_true,e1,hw,e2,Option.bind_some,Option.isSome_some]
def dX(p s:B):Option B:=bif decide (p.length<=s.length)&&s.take p.length==p then some (s.drop p.length) else none
theorem Ox(s p:B):f251 ((s,(p,())),())=some (((dX p s).isSome,()),()):=by
 have aa:decide (((s.length:Nat):Int)>=((p.length:Nat):Int))=decide (p.length<=s.length):=by congr 1;apply propext;omega
 unfold dX;simp only[f251,aa];cases h:decide (p.length<=s.length) with
 |false=>rfl
 |true=>
  rw[cond_true,gj (of_decide_eq_true h)];simp only[Option.bind_some,Bool.true_and];cases (s.take p.length==p)<;>rfl
theorem aeR(s p:B):f215 ((s,(p,())),())=some (((dX p s).isSome,()),()):=by
 have:=Ox s p;simp only[f215,this,Option.bind_some]
theorem Oy(s p:B):f168 ((s,(p,())),())=some (((dX p s).getD s,((dX p s).isSome,())),()):=by
 have h0:=Ox s p;simp only[f168,f213,h0,Option.bind_some];unfold dX;cases h:decide (p.length<=s.length)&&s.take p.length==p with
 |false=>rfl
 |true=>
  simp only[Bool.and_eq_true,decide_eq_true_eq] at h;have e:bm s ((p.length:Nat):Int) ((s.length:Nat):Int)=some (s.drop p.length):=fc h.1;simp only[cond_true,Option.isSome_some,Bool.not_true,cond_false,e,Option.bind_some,Option.getD_some]
theorem va(p r:B):dX p (p++r)=some r:=by
 unfold dX;rw[decide_eq_true (by simp)]
 simp
def splitN(c:UInt8):Nat->B->List B
 |0,s=>[s]
 |k+1,s=>match dv c s with
  |some (x,y)=>x::splitN c k y
  |none=>[s]
theorem yu(c:UInt8):∀(k:Nat) (s:B),(bF c s).length<=k+1->splitN c k s=bF c s:=by
 intro k;induction k with
 |zero=>
  intro s h;rw[Pb] at h ⊢;cases hc:dv c s with
  |none=>rfl
  |some q=>
   obtain⟨x,y⟩:=q;rw[hc] at h;have:=oY c y;cases hy:bF c y with
   |nil=>exact absurd hy this
   |cons z zs=>simp[hy] at h
 |succ k ih=>
  intro s h;rw[Pb] at h ⊢;unfold splitN;cases hc:dv c s with
  |none=>rfl
  |some q=>
   obtain⟨x,y⟩:=q;rw[hc] at h;simp only[List.length_cons] at h;show x::splitN c k y=x::bF c y;rw[ih y (by omega)]
theorem O_(c:UInt8)(k:Nat)(s:B):1<=(splitN c k s).length:=by
 cases k with
 |zero=>simp[splitN]
 |succ k=>unfold splitN;split<;>simp
theorem yt(c:UInt8):∀(k:Nat) (s:B),s.length<=k->splitN c k s=bF c s:=fun k s h=>yu c k s (by have:=nS c s;omega)
theorem Gu{aH:Type}:∀(a:List aH) (i:Nat) (x:aH),i<a.length->(a.set i x).take (i+1)=a.take i++[x]:=by
 intro a;induction a with
 |nil=>intro i x h;simp at h
 |cons b a ih=>
  intro i x h;cases i with
  |zero=>rfl
  |succ i=>
   have:=ih i x (by simpa using h)
   simp only[List.set_cons_succ,List.take_succ_cons,List.cons_append,this]
theorem TA(c:UInt8)(N:Nat)(eL:ar N):∀(m i:Nat) (s:B) (a:List B),i+m+1=N->a.length=N->ar s.length->s.length+i<=1099511627776->
  ∃(aN:B) (j:Nat) (cR:List B),u6 ((s,([c],((0:Int),(((N-1:Nat):Int),((),((i:Int),())))))),(a,()))=some ((aN,((),((j:Int),()))),(cR,()))/\j<N/\cR.length=N/\(cR.set j aN).take (j+1)=a.take i++splitN c m s:=by
 intro m;induction m with
 |zero=>
  intro i s a hi ha hs _;refine⟨s,i,a,cp ?_,by omega,ha,?_⟩
  ·have:decide ((i:Int)<((N-1:Nat):Int))=false:=decide_eq_false (by omega)
   simp only[y3,this,cond_false]
  ·rw[Gu a i s (by omega)];rfl
 |succ m ih=>
  intro i s a hi ha hs hb;have hlt:decide ((i:Int)<((N-1:Nat):Int))=true:=decide_eq_true (by omega)
  have hx:=QY c s;have hx:f212 ((s,([c],())),())=some ((Lib.indexByte s c,()),()):=by simp only[f212,hx,Option.bind_some]
  rw[Tw] at hx;cases hc:dv c s with
  |none=>
   rw[hc] at hx;refine⟨s,i,a,cp ?_,by omega,ha,?_⟩
   ·have:decide ((-1:Int)<0)=true:=rfl;simp only[y3,hlt,cond_true,hx,Option.bind_some,this]
   ·rw[Gu a i s (by omega)];simp only[splitN,hc]
  |some q=>
   obtain⟨x,y⟩:=q;rw[hc] at hx;obtain⟨h1,_⟩:=jh hc;have hl:s.length=x.length+1+y.length:=by rw[h1];simp;omega
   obtain⟨aN,j,cR,g1,g2,g3,g4⟩:=ih (i+1) y (a.set i x) (by omega) (by simp[ha]) (by unfold ar at hs ⊢;omega) (by omega)
   refine⟨aN,j,cR,?_,g2,g3,?_⟩
   ·refine(dN ?_).trans g1;have aa:decide (((x.length:Nat):Int)<0)=false:=decide_eq_false (by omega)
    have U:IntKind.i64.wrap (((x.length:Nat):Int)+0)=((x.length:Nat):Int):=by unfold ar at hs;rw[cS (by omega) (by omega)];omega
    have aY:IntKind.i64.wrap (((x.length:Nat):Int)+((([c]:B).length:Nat):Int))=((x.length+1:Nat):Int):=by
     unfold ar at hs;rw[cS (by simp;omega) (by simp;omega)];simp
    have e1:bm s 0 ((x.length:Nat):Int)=some x:=by rw[gj (by omega),h1];simp
    have e2:bm s ((x.length+1:Nat):Int) ((s.length:Nat):Int)=some y:=by
     rw[fc (by omega)]
     congr 1
     rw[h1,show x++c::y=(x++[c])++y by simp,List.drop_left' (by simp)]
    have bC:be a.length (i:Int)=some i:=ft (by omega)
    have dy:a[i]? =some (a[i]'(by omega)):=List.getElem?_eq_getElem (by omega)
    simp only[y3,hlt,cond_true,hx,Option.bind_some,aa,cond_false,U,e1,bC,dy,aY,e2,bU (i:=i) (by unfold ar;omega)]
   ·rw[g4,Gu a i x (by omega)]
    simp only[splitN,hc,List.append_assoc,List.cons_append,List.nil_append]
theorem af7(c:UInt8):∀s:B,(bF c s).length=Lib.countByte s c+1:=by
 intro s;induction s with
 |nil=>rfl
 |cons b r ih=>
  unfold bF Lib.countByte;rw[List.count_cons];unfold Lib.countByte at ih;cases hb:b==c with
  |true=>simp[ih]
  |false=>
   simp only[cond_false];have hne:=oY c r;cases hy:bF c r with
   |nil=>exact absurd hy hne
   |cons y bj=>rw[hy] at ih;simpa using ih
theorem ago(c:UInt8)(s:B)(n N:Nat)(hs:s.length<=1000000000)(h1:1<=n)(eL:min n (s.length+1)=N):
  f167 ((s,([c],((0:Int),((n:Int),())))),())=some ((splitN c (N-1) s,()),()):=by
 have rz:((n:Int)==0)=false:=by rw[beq_eq_false_iff_ne];omega
 have hc0:(([c]:B)==[])=false:=rfl;have hneg:decide ((n:Int)<0)=false:=decide_eq_false (by omega)
 have hw:IntKind.i64.wrap (((s.length:Nat):Int)+1)=((s.length+1:Nat):Int):=by rw[cS (by omega) (by omega)];omega
 have hm:lF (n:Int) ((s.length+1:Nat):Int)=(N:Int):=by unfold lF;split<;>omega
 have Ms:jY 16 (N:Int) (N:Int) ([]:B)=some (List.replicate N []):=UT (by decide) (by unfold ar;omega)
 have hw1:IntKind.i64.wrap ((N:Int)-1)=((N-1:Nat):Int):=by rw[cS (by omega) (by omega)];omega
 obtain⟨aN,j,cR,g1,g2,g3,g4⟩:=TA c N (by unfold ar;omega) (N-1) 0 s (List.replicate N []) (by omega) (by simp) (by unfold ar;omega) (by omega)
 have g1:u6 ((s,([c],((0:Int),(((N-1:Nat):Int),((),((0:Int),())))))),(List.replicate N ([]:B),()))=_:=g1;have e1:be cR.length (j:Int)=some j:=ft (by omega)
 have e2:cR[j]? =some (cR[j]'(by omega)):=List.getElem?_eq_getElem (by omega)
 have bC:bm (cR.set j aN) 0 ((j+1:Nat):Int)=some (splitN c (N-1) s):=by
  rw[gj (by simp;omega),g4];simp
 simp only[f167,rz,hc0,cond_false,A4,hneg,Option.bind_some,hw,hm,Ms,hw1,g1,e1,e2,bU (i:=j) (by unfold ar;omega),bC]
theorem PK(s:B)(hs:s.length<=1000000000):f216 ((s,([32],((5:Int),()))),())=some ((splitN 32 4 s,()),()):=by
 have h:=ago 32 s 5 _ hs (by decide) rfl
 have h:f167 ((s,(([32]:B),((0:Int),((5:Int),())))),())=_:=h;simp only[f216,h,Option.bind_some];congr 3
 by_cases aC:4<=s.length
 ·rw[show min 5 (s.length+1)-1=4 by omega]
 ·rw[yt 32 _ s (by omega),yt 32 4 s (by omega)]
theorem PL(s:B)(hs:s.length<=1000000000):f116 ((s,([32],())),())=some ((bF 32 s,()),()):=by
 have hcs:=af7 32 s;have hl:=nS 32 s;have rz:((-1:Int)==0)=false:=rfl;have hc0:(([32]:B)==[])=false:=rfl;have hneg:decide ((-1:Int)<0)=true:=rfl;have ath:f211 ((s,(([32]:B),())),())=some (((Lib.countByte s 32:Int),()),()):=rfl;have DN:IntKind.i64.wrap ((Lib.countByte s 32:Int)+1)=(((bF 32 s).length:Nat):Int):=by rw[cS (by omega) (by omega)];omega
 have hw:IntKind.i64.wrap (((s.length:Nat):Int)+1)=((s.length+1:Nat):Int):=by rw[cS (by omega) (by omega)];omega
 generalize eL:(bF 32 s).length=N at DN hcs hl;have hm:lF (N:Int) ((s.length+1:Nat):Int)=(N:Int):=by unfold lF;split<;>omega
 have Ms:jY 16 (N:Int) (N:Int) ([]:B)=some (List.replicate N []):=UT (by decide) (by unfold ar;omega)
 have hw1:IntKind.i64.wrap ((N:Int)-1)=((N-1:Nat):Int):=by rw[cS (by omega) (by omega)];omega
 obtain⟨aN,j,cR,g1,g2,g3,g4⟩:=TA 32 N (by unfold ar;omega) (N-1) 0 s (List.replicate N []) (by omega) (by simp) (by unfold ar;omega) (by omega)
 have g1:u6 ((s,(([32]:B),((0:Int),(((N-1:Nat):Int),((),((0:Int),())))))),(List.replicate N ([]:B),()))=_:=g1;have e1:be cR.length (j:Int)=some j:=ft (by omega)
 have e2:cR[j]? =some (cR[j]'(by omega)):=List.getElem?_eq_getElem (by omega)
 have bC:bm (cR.set j aN) 0 ((j+1:Nat):Int)=some (bF 32 s):=by
  rw[gj (by simp;omega),g4,yu 32 (N-1) s (by omega)];simp
 simp only[f116,f167,rz,hc0,cond_false,A4,hneg,cond_true,ath,Option.bind_some,DN,hw,hm,Ms,hw1,g1,e1,e2,bU (i:=j) (by unfold ar;omega),bC]
end Go.Proofs
namespace Go.Proofs
open Go.Shelf Go.RowKit Go.Lib
variable {P:Program}{ρ:Ren}
abbrev pK(s:ByteArray):Prop:=∀(j:Nat) b,s.data.toList[j]? =some b->b.toNat<128
theorem ak1{r:Int}(h0:128<=r):2<=(Utf8.encode r).size/\∀j (h:j<(Utf8.encode r).size),0<j->128<=((Utf8.encode r)[j]'h).toNat:=by
 unfold Utf8.encode;generalize hc:(if Utf8.valid r then r.toNat else Utf8.runeError)=c
 have hc1:128<=c:=by
  rw[<-hc];split
  ·omega
  ·decide
 simp only[];have k:∀x:Nat,128<=128+x%64/\128+x%64<256:=fun x=>by omega
 repeat' split
 all_goals first|omega|skip
 ·refine⟨by show 2<=2;decide,fun j h hj=>?_⟩
  have hj2:j<2:=h;have:j=1:=by omega
  subst this;show 128<=(UInt8.ofNat (128+c%64)).toNat;rw[UInt8.toNat_ofNat'];have:=k c;omega
 ·refine⟨by show 2<=3;decide,fun j h hj=>?_⟩
  have hj2:j<3:=h;have:j=1\/j=2:=by omega
  rcases this with rfl|rfl
  ·show 128<=(UInt8.ofNat (128+c/64%64)).toNat;rw[UInt8.toNat_ofNat'];have:=k (c/64);omega
  ·show 128<=(UInt8.ofNat (128+c%64)).toNat;rw[UInt8.toNat_ofNat'];have:=k c;omega
 ·refine⟨by show 2<=4;decide,fun j h hj=>?_⟩
  have hj2:j<4:=h;have:j=1\/j=2\/j=3:=by omega
  rcases this with rfl|rfl|rfl
  ·show 128<=(UInt8.ofNat (128+c/4096%64)).toNat;rw[UInt8.toNat_ofNat'];have:=k (c/4096);omega
  ·show 128<=(UInt8.ofNat (128+c/64%64)).toNat;rw[UInt8.toNat_ofNat'];have:=k (c/64);omega
  ·show 128<=(UInt8.ofNat (128+c%64)).toNat;rw[UInt8.toNat_ofNat'];have:=k c;omega
theorem aek{l:List UInt8}{b:UInt8}(h:∀x,x∈l->x.toNat<128)(hb:128<=b.toNat):Lib.indexByte l b=-1:=by
 induction l with
 |nil=>rfl
 |cons x r ih=>
  have h1:=h x List.mem_cons_self;have h2:=ih fun y hy=>h y (List.mem_cons_of_mem _ hy)
  have h3:(x==b)=false:=by
   rw[beq_eq_false_iff_ne];rintro rfl;omega
  unfold Lib.indexByte;rw[h2,h3];rfl
set_option maxHeartbeats 4000000 in
set_option maxRecDepth 1000000 in
theorem Any.aey(L:Lays.n152 P ρ)(s:ByteArray)(w:World)(ha:pK s):
  Calls P (ρ.f 152) #[.string s,.int .i32 65533] w fun e w'=>e=.returned (.int .i64 (-1))/\∃pos,w'=w.iter s pos:=by
 have HA:Aside (pK s):=ha;clear ha;have t3:=L.t3;have a3:=L.a3;have z3:=L.z3;have v3:=L.v3;have t4:=L.t4;have a4:=L.a4;have z4:=L.z4;have v4:=L.v4;have t5:=L.t5;have a5:=L.a5;have z5:=L.z5;have v5:=L.v5;have t9:=L.t9;have a9:=L.a9;have z9:=L.z9;have v9:=L.v9;have t21:=L.t21;have a21:=L.a21;have z21:=L.z21;have v21:=L.v21;go_enter L.f152,Body.n152_ntmps ρ
 go_wp2
 go_loopg [5,6] s.size (fun g _ _ wx=>∃i:Nat,i+g=s.size/\wx=w.iter s i)
 case atStart=>exact⟨0,by omega,rfl⟩
 case round=>
  obtain⟨i,hig,rfl⟩:=hrel;cases gk with
  |zero=>
   obtain rfl:i=s.size:=by omega
   have hnx:=run_next_end (P:=P) w s s.size
   go_wp2
   go_ret
   exact⟨rfl,_,rfl⟩
  |succ g=>
   have hi:i<s.size:=by omega
   obtain⟨x,hx⟩:∃x:UInt8,s[i]'hi=x:=⟨_,rfl⟩;have hxl:s.data.toList[i]? =some x:=by rw[<-hx];exact Lib.data_getElem? s i hi
   have hx128:x.toNat<128:=HA.out i x hxl;have hnx:=fun ty=>run_next_ascii (P:=P) w s i ty hi (by rw[hx];exact hx128)
   rw[hx] at hnx;clear hxl hx;have hne:((x.toNat:Int)==65533)=false:=by rw[beq_eq_false_iff_ne];omega
   go_wp2
   go_roundg g
   case measure=>omega
   case rel=>exact⟨i+1,by omega,rfl⟩
set_option maxHeartbeats 8000000 in
set_option maxRecDepth 1000000 in
theorem Any.aej(L:Lays.n152 P ρ)(s:ByteArray)(r:Int)(w:World)(h0:128<=r)(h1:r<=2147483647)(hne:r≠65533)(hs:s.size<=1000000)(ha:pK s):
  Calls P (ρ.f 152) #[.string s,.int .i32 r] w fun e w'=>e=.returned (.int .i64 (-1))/\Below w.heap.size w w':=by
 have HA:Aside (pK s):=ha;clear ha;have t3:=L.t3;have a3:=L.a3;have z3:=L.z3;have v3:=L.v3;have t4:=L.t4;have a4:=L.a4;have z4:=L.z4;have v4:=L.v4;have t5:=L.t5;have a5:=L.a5;have z5:=L.z5;have v5:=L.v5;have t9:=L.t9;have a9:=L.a9;have z9:=L.z9;have v9:=L.v9;have t21:=L.t21;have a21:=L.a21;have z21:=L.z21;have v21:=L.v21;have e119:∀args w,(callFunc (ρ.f 119) args).run P w=.ok (.enter (ρ.f 119) args) w:=enters_of L.f119 (by kernel_rfl) rfl
 have e137:∀args w,(callFunc (ρ.f 137) args).run P w=.ok (.enter (ρ.f 137) args) w:=enters_of L.f137 (by kernel_rfl) rfl
 have b1:¬(r<128):=by omega
 have b2:(0:Int)<=r:=by omega
 have b3:(r==65533)=false:=by rw[beq_eq_false_iff_ne];exact hne
 obtain⟨hE,hB⟩:=ak1 h0;cases hv:Lib.validRune r with
 |false=>
  go_enter L.f152,Body.n152_ntmps ρ
  go_wp2_with (go_at_fn (ρ.f 119);refine(Any.utf8_ValidRune {L with} _ _).mono ?_;rintro e w' ⟨rfl,hw⟩;rw[hw,hv])
  go_ret
  exact⟨rfl,Below.refl _ _⟩
 |true=>
  have mixed:=L.mixed;have s21:(P.underlying (ρ.t 21)).isSome=true:=by rw[L.t21];rfl
  have hcv:=fun w=>run_convert_int_string (P:=P) w (ρ.t 21) (ρ.t 9) .i32 r s21 L.t9
  have hRs:(Utf8.encode r).size<=4:=encode_size_le r;generalize hR:Utf8.encode r=R at hE hB hcv hRs;clear hR;obtain⟨n,hn⟩:∃n:Nat,R.size=n+1:=⟨R.size-1,by omega⟩
  have hidx:(R.size:Int)-1=(n:Int):=by omega
  go_enter L.f152,Body.n152_ntmps ρ
  go_wp2_with (go_at_fn (ρ.f 119);refine(Any.utf8_ValidRune {L with} _ _).mono ?_;rintro e w' ⟨rfl,hw⟩;rw[hw,hv])
  go_step3
  go_wp2
  refine wp_loop_rounds 1 ?_
  rw[rounds_succ]
  go_wp2
  ·have hlt:(n:Int)<(s.size:Int):=by omega
   have hns:n<s.size:=by omega
   have hnR:n<R.size:=by omega
   have hx:=HA.out n _ (Lib.data_getElem? s n hns);have hy:=hB n hnR (by omega)
   obtain⟨x,hxe⟩:∃x:UInt8,s[n]'hns=x:=⟨_,rfl⟩;obtain⟨y,hye⟩:∃y:UInt8,R[n]'hnR=y:=⟨_,rfl⟩;rw[hxe] at hx;rw[hye] at hy;have g1:=fun w=>run_index_string (P:=P) w (ρ.t 9) s .i64 (n:Int) L.t9
   have g2:=fun w=>run_index_string (P:=P) w (ρ.t 9) R .i64 (n:Int) L.t9
   simp only[show(0:Int)<=(n:Int)/\(n:Int)<(s.size:Int) from⟨by omega,hlt⟩,dif_pos,Int.toNat_natCast,hxe] at g1
   simp only[show(0:Int)<=(n:Int)/\(n:Int)<(R.size:Int) from⟨by omega,by omega⟩,dif_pos,Int.toNat_natCast,hye] at g2
   go_step3
   go_wp2
   go_region_o
   have hxy:((x.toNat:Int)==(y.toNat:Int))=false:=by rw[beq_eq_false_iff_ne];omega
   have hxy':¬x.toNat=y.toNat:=by omega
   go_wp2
   have hsm:indexByte (List.take (s.size-(n+1)) (List.drop (n+1) s.data.toList)) y=-1:=by
    refine aek (fun z hz=>?_) hy
    obtain⟨k,hk⟩:=List.getElem?_of_mem (List.mem_of_mem_drop (List.mem_of_mem_take hz));exact HA.out k z hk
   have hb1:(n:Int)+1<=(s.size:Int):=by omega
   have hb0:(0:Int)<=(n:Int)+1:=by omega
   have hb2:¬((s.size:Int)<(n:Int)+1):=by omega
   have hbn:n+1<=s.size:=by omega
   have hsl1:∀w,(Instr.slice (ρ.t 9) (.string s) (some (.int .i64 ((n:Int)+1))) none none).run P w=.ok (.string (s.extract (n+1) s.size)) w:=fun w=>by
    rw[run_slice_string_from_if w (ρ.t 9) s .i64 _ L.t9,if_pos ⟨by omega,by omega⟩]
    rfl
   have hw1:IntKind.i64.wrap ((n:Int)+1)=(n:Int)+1:=by rw[IntKind.wrap_i64];omega
   have hsl2:∀w,(Instr.slice (ρ.t 9) (.string s) (some (.int .i64 (IntKind.i64.wrap ((n:Int)+1)))) none none).run P w=.ok (.string (s.extract (n+1) s.size)) w:=fun w=>by rw[hw1];exact hsl1 w
   go_region_with_o (go_at_fn (ρ.f 137);refine(Any.strings_IndexByte {L with} _ _ _).mono ?_;rintro e w' ⟨rfl,hw⟩;rw[hw])
   go_wp2
   rw[Exit.noGoto_ret];simp only[Exit.inBlock,Exit.then]
   rw[Exit.noGoto_ret];simp only[Exit.inBlock,Exit.then]
   go_ret
   exact⟨rfl,(Below.refl _ _).drew.drew⟩
  ·rw[Exit.noGoto_ret];go_ret
   exact⟨rfl,Below.refl _ _⟩
theorem af6(s:ByteArray)(pos:Nat)(h:pos<s.size)(ha:128<=(s[pos]'h).toNat):∀j,j<(Utf8.decode s pos).2->pos+j<s.size/\∀b,s.data.toList[pos+j]? =some b->128<=b.toNat:=by
 have g:∀k (hk:pos+k<s.size) b,s.data.toList[pos+k]? =some b->s.get! (pos+k)=b:=fun k hk b hb=>by
  have e:=Lib.data_getElem? s (pos+k) hk;rw[hb] at e;have:=get_at s (pos+k) hk;rw[Nat.add_zero] at this;rw[this];exact(Option.some.inj e).symm
 have z:∀b,s.data.toList[pos+0]? =some b->128<=b.toNat:=fun b hb=>by
  have e:=Lib.data_getElem? s pos h;rw[Nat.add_zero,e] at hb;rw[<-Option.some.inj hb];exact ha
 have c:∀k,(decide (pos+k<s.size)&&(s.get! (pos+k)).toNat/64==2)=true->pos+k<s.size/\∀b,s.data.toList[pos+k]? =some b->128<=b.toNat:=fun k hk=>by
  simp only[Bool.and_eq_true,decide_eq_true_eq,beq_iff_eq] at hk;refine⟨hk.1,fun b hb=>?_⟩
  have:=g k hk.1 b hb;rw[this] at hk;omega
 have one:∀j,j<1->pos+j<s.size/\∀b,s.data.toList[pos+j]? =some b->128<=b.toNat:=fun j hj=>by
  obtain rfl:j=0:=by omega
  exact⟨h,z⟩
 have hn:¬(s[pos]'h).toNat<128:=by omega
 simp only[Utf8.decode,get_at s pos h,hn,if_false];split
 ·rename_i h2;simp only[Bool.and_eq_true] at h2;have c1:=c 1 (by simpa using h2.2)
  split
  ·intro j hj;have:j=0\/j=1:=by simp only at hj;omega
   rcases this with rfl|rfl
   ·exact⟨h,z⟩
   ·exact c1
  ·exact one
 ·split
  ·rename_i h2;simp only[Bool.and_eq_true] at h2;have c1:=c 1 (by simpa using h2.1.2)
   have c2:=c 2 (by simpa using h2.2)
   split
   ·intro j hj;have:j=0\/j=1\/j=2:=by simp only at hj;omega
    rcases this with rfl|rfl|rfl
    ·exact⟨h,z⟩
    ·exact c1
    ·exact c2
   ·exact one
  ·split
   ·rename_i h2;simp only[Bool.and_eq_true] at h2;have c1:=c 1 (by simpa using h2.1.1.2)
    have c2:=c 2 (by simpa using h2.1.2)
    have c3:=c 3 (by simpa using h2.2)
    split
    ·intro j hj;have:j=0\/j=1\/j=2\/j=3:=by simp only at hj;omega
     rcases this with rfl|rfl|rfl|rfl
     ·exact⟨h,z⟩
     ·exact c1
     ·exact c2
     ·exact c3
    ·exact one
   ·exact one
theorem Any.afb(L:Lays.n152 P ρ)(s:ByteArray)(r:Int)(w:World)(h0:128<=r)(h1:r<=2147483647)(hs:s.size<=1000000)(ha:pK s):
  Calls P (ρ.f 152) #[.string s,.int .i32 r] w fun e w'=>e=.returned (.int .i64 (-1))/\Below w.heap.size w w':=by
 by_cases hne:r=65533
 ·subst hne;exact(Any.aey L s w ha).mono fun e w' ⟨h,pos,h2⟩=>⟨h,h2▸(Below.refl _ _).alloc (Nat.le_refl _) _⟩
 ·exact Any.aej L s r w h0 h1 hne hs ha
set_option maxHeartbeats 8000000 in
set_option maxRecDepth 1000000 in
theorem Any.aeb(L:Lays.n153 P ρ)(s chars:ByteArray)(w:World)(h2:2<=chars.size)(h8:s.size<=8)(hcs:chars.size<=1000000)(hac:pK chars):
  Calls P (ρ.f 153) #[.string s,.string chars] w fun e w'=>e=.returned (.int .i64 (Lib.indexAny s.data.toList chars.data.toList))/\Below w.heap.size w w':=by
 have HA:Aside (pK chars):=hac;clear hac;have hemp:chars.toList.isEmpty=false:=by
  rw[Lib.toList_data];cases h:chars.data.toList with
  |nil=>have:=Lib.size_eq chars;rw[h,List.length_nil] at this;omega
  |cons _ _=>rfl
 have hn1:((chars.size:Int)==1)=false:=beq_eq_false_iff_ne.2 (by omega)
 have h8z:decide ((8:Int)<(s.size:Int))=false:=decide_eq_false (by omega)
 have t3:=L.t3;have a3:=L.a3;have z3:=L.z3;have v3:=L.v3;have t4:=L.t4;have a4:=L.a4;have z4:=L.z4;have v4:=L.v4;have t5:=L.t5;have a5:=L.a5;have z5:=L.z5;have v5:=L.v5;have t9:=L.t9;have a9:=L.a9;have z9:=L.z9;have v9:=L.v9;have t21:=L.t21;have a21:=L.a21;have z21:=L.z21;have v21:=L.v21;have e152:∀args w,(callFunc (ρ.f 152) args).run P w=.ok (.enter (ρ.f 152) args) w:=enters_of L.f152 (by kernel_rfl) rfl
 have e226:∀args w,(callFunc (ρ.f 226) args).run P w=.ok (.enter (ρ.f 226) args) w:=enters_of L.f226 (by kernel_rfl) rfl
 go_enter L.f153,Body.n153_ntmps ρ
 go_wp2_with (go_at_fn (ρ.f 226);refine(Any.strings_shouldUseASCIISet {L with} _ _).mono ?_;rintro e w' ⟨rfl,hw⟩;rw[hw,h8z])
 go_loopg [9,10] s.size (fun g _ _ wx=>∃i:Nat,i<=s.size/\s.size-i<=g/\wx.heap[w.heap.size]? =some (.stringIter s i)/\Aside (Below w.heap.size w wx)/\Aside (Lib.NoAny s.data.toList chars.data.toList i))
 case atStart=>exact⟨0,by omega,by omega,World.iter_heap _ _ _,(Below.refl _ _).alloc (Nat.le_refl _) _,Lib.NoAny.zero _ _⟩
 case round=>
  obtain⟨i,hi,hg,hk,qd,HN⟩:=hrel;by_cases hlt:i<s.size
  ·obtain⟨x,hx⟩:∃x:UInt8,s[i]'hlt=x:=⟨_,rfl⟩;have hxl:s.data.toList[i]? =some x:=by rw[<-hx];exact Lib.data_getElem? s i hlt
   have Hx:Aside (s.data.toList[i]? =some x):=hxl;have hkl:=(Array.getElem?_eq_some_iff.1 hk).1;by_cases hx128:x.toNat<128
   ·have hnx:=fun ty=>run_next_ascii_at (P:=P) _ w.heap.size s i ty hk hlt (by rw[hx];exact hx128)
    rw[hx] at hnx;have hio:=iterAt_heap _ w.heap.size s i (i+1) hk;have hbo:Aside (Below w.heap.size w _):=below_iterAt qd.out (Nat.le_refl _) s (i+1);clear hxl hx;have hcon:=Lib.contains_iff_indexByte chars.data.toList x;have hback:((x.toNat:Int)).toNat.toUInt8=x:=by simp
    cases hin:chars.data.toList.contains x
    ·rw[hin] at hcon;have hlt2:¬((0:Int)<=Lib.indexByte chars.data.toList x):=of_decide_eq_false hcon.symm;clear hcon
     go_wp2_with (go_at_fn (ρ.f 152);refine(Any.strings_IndexRune_ascii {L with} _ _ _ (by omega) (by omega)).mono ?_;rintro e w' ⟨rfl,hw⟩;rw[hw,hback])
     go_roundg (s.size-(i+1))
     case measure=>omega
     case rel=>exact⟨i+1,by omega,by omega,hio,hbo,HN.out.succ Hx.out hin⟩
    ·rw[hin] at hcon;have hge:(0:Int)<=Lib.indexByte chars.data.toList x:=of_decide_eq_true hcon.symm;clear hcon
     go_wp2_with (go_at_fn (ρ.f 152);refine(Any.strings_IndexRune_ascii {L with} _ _ _ (by omega) (by omega)).mono ?_;rintro e w' ⟨rfl,hw⟩;rw[hw,hback])
     go_ret
     exact⟨by rw[Lib.indexAny_hit HN.out Hx.out hin];rfl,hbo.out⟩
   ·have hhi:128<=(s[i]'hlt).toNat:=by rw[hx];omega
    have hnx:=fun ty=>run_next_any_at (P:=P) _ w.heap.size s i ty hk hlt
    have hd1:=decode_high s i hlt hhi;have hd2:=decode_le s i;have hsk:Aside (∀j,j<(Utf8.decode s i).2->i+j<s.size/\∀b,s.data.toList[i+j]? =some b->128<=b.toNat):=af6 s i hlt hhi;generalize(Utf8.decode s i).1=c at hnx hd1 hd2;generalize(Utf8.decode s i).2=d at hnx hd1 hsk;have hle:i+d<=s.size:=by
     have:=(hsk.out (d-1) (by omega)).1
     omega
    have hio:=iterAt_heap _ w.heap.size s i (i+d) hk;have hbo:Aside (Below w.heap.size w _):=below_iterAt qd.out (Nat.le_refl _) s (i+d);have hno:Aside (Lib.NoAny s.data.toList chars.data.toList (i+d)):=fun j b hj hb=>by
     by_cases hji:j<i
     ·exact HN.out j b hji hb
     ·have h3:=(hsk.out (j-i) (by omega)).2 b (by rw[show i+(j-i)=j by omega];exact hb)
      cases hc:chars.data.toList.contains b with
      |false=>rfl
      |true=>
       have hm:b∈chars.data.toList:=by simpa using hc
       obtain⟨k,hk2⟩:=List.getElem?_of_mem hm;have:=HA.out k b hk2;omega
    have hneg:¬((0:Int)<=-1):=by decide
    have hc0:(128:Int)<=(c:Int):=by omega
    have hc1:((c:Nat):Int)<=2147483647:=by omega
    clear hxl hx
    go_wp2_with (go_at_fn (ρ.f 152);refine(Any.afb {L with} _ _ _ hc0 hc1 hcs HA.out).mono ?_;rintro e w' ⟨rfl,hbw⟩)
    go_roundg (s.size-(i+d))
    case measure=>omega
    case rel=>exact⟨i+d,hle,by omega,(hbw.block _ (by simpa[iterAt_size] using hkl)).trans hio,hbo.out.trans (hbw.mono (by rw[iterAt_size];omega)),hno.out⟩
  ·obtain rfl:i=s.size:=by omega
   have hnx:=fun ty=>run_next_end_at (P:=P) _ w.heap.size s s.size ty hk (by omega)
   go_wp2
   go_ret
   exact⟨by rw[Lib.indexAny_none (by rw[<-Lib.size_eq];exact HN.out)];rfl,qd.out⟩
theorem Any.afd(L:Lays.n153 P ρ)(h116:(P.info? (ρ.t 116)).map (fun i=>(i.zero,i.size))=some (some (.agg (Array.replicate 256 (.bool false))),256))(s chars:ByteArray)(w:World)(hs:s.size<4294967281)(h2:2<=chars.size)(hcs:chars.size<=1000000)(hac:pK chars):
  Calls P (ρ.f 153) #[.string s,.string chars] w fun e w'=>e=.returned (.int .i64 (Lib.indexAny s.data.toList chars.data.toList))/\Below w.heap.size w w':=by
 by_cases h8:s.size<=8
 ·exact Any.aeb L s chars w h2 h8 hcs hac
 ·refine(Any.strings_IndexAny_long L (zero_of_info h116).1 (zero_of_info h116).2 s chars w h2 (by omega) hs (by omega) hac).mono fun e w' ⟨h1,h2⟩=>⟨h1,?_⟩
  rw[h2];exact((Below.refl _ _).alloc (Nat.le_refl _) _).alloc (by simp) _
end Go.Proofs
namespace Go.Proofs
open Go.Jk
noncomputable def WN:aD:=E7
theorem apV:aA O 214 WN:=aiP (fun _ _=>enters_of Tryz.func214 (by kernel_rfl) rfl _ _) fun s p w h1 h2 h3 aC=>Any.afd Tryz.amU (by kernel_rfl) s p w h1 h2 h3 aC
noncomputable abbrev aur:a_:=[(102,w3),(214,WN),(215,Z8)]
theorem aah:aQ O (aW ad aur):=aV ⟨CV,apV,arE,⟨⟩⟩
abbrev SW:Shape:=⟨[aj 0,ay 2 2 0,ay 4 4 0],[ax 2 [ah,aZ,ah],ax 4 [ah,aZ,ah]],49⟩
abbrev Sz:List aP:=[(.norm,⟨[ay 2 2 0,ay 4 4 0],[ax 2 [ah,aZ,ah],ax 4 [ah,aZ,ah]],49⟩),(.ret,⟨[ay 2 2 0,ao 3],[ax 2 [ah,aZ,ah]],49⟩)]
noncomputable def mW(y:SW.J):Option (aB Sz):=
(q3 y.1.1 ([61,60,62]:B)).bind fun a=>
 bif(decide ((Lib.indexAny y.1.1 ([61,60,62]:B))>=(0:Int))) then
(bm y.1.1 (0:Int) (Lib.indexAny y.1.1 ([61,60,62]:B))).bind fun b=>
(bm y.1.1 (Lib.indexAny y.1.1 ([61,60,62]:B)) (y.1.1.length:Int)).bind fun c=>
(f215 ((c,([62,61]:B),()),())).bind fun d=>
 bif d.1.1 then
(bm c (2:Int) (c.length:Int)).bind fun e=>
 some (.inl (((),(),()),(y.2.1.1,y.2.1.2.1,y.2.1.2.2.1,()),(b,(2:Int),e,()),()))
else
(aO c (0:Int)).bind fun f=>
 bif((f.toNat:Int)==(61:Int)) then
(bm c (1:Int) (c.length:Int)).bind fun g=>
 some (.inl (((),(),()),(y.2.1.1,y.2.1.2.1,y.2.1.2.2.1,()),(b,(1:Int),g,()),()))
else
(aO c (0:Int)).bind fun h=>
 bif((h.toNat:Int)==(60:Int)) then
(bm c (1:Int) (c.length:Int)).bind fun i=>
 some (.inl (((),(),()),(y.2.1.1,y.2.1.2.1,y.2.1.2.2.1,()),(b,(3:Int),i,()),()))
else
 some (.inr (((),false,()),(([]:B),(0:Int),([]:B),()),()))
else
 some (.inl (((),(),()),(y.2.1.1,y.2.1.2.1,y.2.1.2.2.1,()),(y.2.2.1.1,y.2.2.1.2.1,y.2.2.1.2.2.1,()),()))
theorem ami:aS O (am (codeOf Tryz.f169) 1 14) (aU SW Sz mW):=cd aah (by kernel_rfl) ae fun y=>by kernel_rfl
abbrev i169:Shape:=⟨[aj 0],[],49⟩
abbrev Yj:Shape:=⟨[ay 2 2 0,ao 3],[ax 2 [ah,aZ,ah]],49⟩
noncomputable def f169(a:i169.J):Option Yj.J:=
(mW ((a.1.1,(),(),()),(([]:B),(0:Int),([]:B),()),(a.1.1,(0:Int),([]:B),()),())).bind fun b=>
(match b with
|.inl c=>
(f102 (((c.2.2.1.1,c.2.2.1.2.1,c.2.2.1.2.2.1,()),()),())).bind fun d=>
 bif(!d.1.1) then
 some (((),false,()),(([]:B),(0:Int),([]:B),()),())
else
 some (((),true,()),(c.2.2.1.1,c.2.2.1.2.1,c.2.2.1.2.2.1,()),())
|.inr e=>
 some (((),e.1.2.1,()),(e.2.1.1,e.2.1.2.1,e.2.1.2.2.1,()),()))
noncomputable def _v:aD:=aG ad Tryz.f169 i169 Yj [] f169
theorem arX:aA O 169 _v:=aK aah Tryz.func169 (by kernel_rfl) (a7 ami ae) (fun y=>by kernel_rfl) fun a=>by kernel_rfl
def eS:B:=[61,60,62]
theorem QU:∀s:B,((∀y,y∈s->eS.contains y=false)/\Lib.indexAny s eS=-1)\/∃a x r,s=a++x::r/\eS.contains x=true/\(∀y,y∈a->eS.contains y=false)/\Lib.indexAny s eS=(a.length:Int):=by
 intro s;induction s with
 |nil=>exact .inl ⟨fun y h=>(by cases h),rfl⟩
 |cons b l ih=>
  unfold Lib.indexAny;cases hb:eS.contains b with
  |true=>exact .inr ⟨[],b,l,rfl,hb,fun y h=>(by cases h),rfl⟩
  |false=>
   rcases ih with⟨h1,h2⟩|⟨a,x,r,h1,h2,h3,aC⟩
   ·refine .inl ⟨fun y hy=>?_,?_⟩
    ·rcases List.mem_cons.1 hy with rfl|hy
     ·exact hb
     ·exact h1 y hy
    ·rw[h2];simp
   ·refine .inr ⟨b::a,x,r,by rw[h1];rfl,h2,fun y hy=>?_,?_⟩
    ·rcases List.mem_cons.1 hy with rfl|hy
     ·exact hb
     ·exact h3 y hy
    ·rw[aC];have:((a.length:Int)==-1)=false:=by rw[beq_eq_false_iff_ne];omega
     simp[this]
theorem anu{a r:B}{x:UInt8}(ha:∀y,y∈a->eS.contains y=false)(hx:eS.contains x=true):Lib.indexAny (a++x::r) eS=(a.length:Int):=by
 induction a with
 |nil=>show Lib.indexAny (x::r) eS=_;unfold Lib.indexAny;rw[hx];rfl
 |cons b a ih=>
  show Lib.indexAny (b::(a++x::r)) eS=_;unfold Lib.indexAny;have hb:=ha b List.mem_cons_self;rw[hb,ih fun y hy=>ha y (List.mem_cons_of_mem _ hy)]
  have:((a.length:Int)==-1)=false:=by rw[beq_eq_false_iff_ne];omega
  simp[this]
theorem apa{s:B}(h:∀y,y∈s->eS.contains y=false):Lib.indexAny s eS=-1:=by
 rcases QU s with⟨_,h2⟩|⟨a,x,r,h1,h2,_,_⟩
 ·exact h2
 ·have:=h x (by rw[h1];simp)
  rw[h2] at this;cases this
theorem alg{s:B}(h:s.length<=1000000):q3 s ([61,60,62]:B)=some ():=by
 unfold q3;exact if_pos ⟨by omega,by decide,by decide,by decide⟩
def pn(a t:B):Option bv:=match t with
 |62::61::r=>some ⟨a,2,r⟩
 |61::r=>some ⟨a,1,r⟩
 |60::r=>some ⟨a,3,r⟩
 |_=>none
def kC(s:B):Option bv:=match Lib.indexAny s eS with
 |.ofNat k=>pn (s.take k) (s.drop k)
 |_=>some ⟨s,0,[]⟩
def eJ(s:B):Option bv:=match kC s with
 |some n=>bif dC n then some n else none
 |none=>none
def iu:bv:=⟨[],0,[]⟩
theorem PN(s:B)(hs:s.length<=1000000):f169 ((s,()),())=some (((),((eJ s).isSome,())),((((eJ s).getD iu).name,(((eJ s).getD iu).kind,(((eJ s).getD iu).aX,()))),())):=by
 have hk:∀n:bv,n.name.length<=1000000->n.aX.length<=1000000->f102 (((n.name,(n.kind,(n.aX,()))),()),())=some ((dC n,()),()):=fun n h1 h2=>
  yI (((n.name,(n.kind,(n.aX,()))),()),()) (by show n.name.length<=2097152;omega) (by show n.aX.length<=2097152;omega)
 have fin:∀n:bv,n.name.length<=1000000->n.aX.length<=1000000->kC s=some n->
   mW ((s,((),((),()))),((([]:B),((0:Int),(([]:B),()))),((s,((0:Int),(([]:B),()))),())))=some (.inl (((),((),())),((([]:B),((0:Int),(([]:B),()))),((n.name,(n.kind,(n.aX,()))),()))))->
   f169 ((s,()),())=some (((),((eJ s).isSome,())),((((eJ s).getD iu).name,(((eJ s).getD iu).kind,(((eJ s).getD iu).aX,()))),())):=by
  intro n h1 h2 hr hg;have uj:=hk n h1 h2;have hG:eJ s=bif dC n then some n else none:=by unfold eJ;rw[hr]
  simp only[f169,hg,Option.bind_some,uj,hG];cases dC n<;>rfl
 have dY:q3 s ([61,60,62]:B)=some ():=alg hs;rcases QU s with⟨_,h2⟩|⟨a,x,r,h1,h2,h3,aC⟩
 ·refine fin ⟨s,0,[]⟩ hs (by simp) (by unfold kC;rw[h2];rfl) ?_
  have h2:Lib.indexAny s ([61,60,62]:B)=-1:=h2;have aa:decide ((-1:Int)>=0)=false:=rfl;simp only[mW,dY,Option.bind_some,h2,aa,cond_false]
 ·have oG:Lib.indexAny s ([61,60,62]:B)=(a.length:Int):=aC;have aa:decide ((a.length:Int)>=0)=true:=decide_eq_true (by omega)
  have hl:s.length=a.length+(x::r).length:=by rw[h1];simp
  have e1:bm s 0 ((a.length:Nat):Int)=some a:=by rw[gj (by omega),h1];simp
  have e2:bm s ((a.length:Nat):Int) ((s.length:Nat):Int)=some (x::r):=by rw[fc (by omega),h1];simp
  have hp:=aeR (x::r) [62,61];have ox:aO (x::r) (0:Int)=some x:=rfl;have dW:kC s=pn a (x::r):=by
   unfold kC;rw[aC];have d1:s.drop a.length=x::r:=by rw[h1];simp
   have d2:s.take a.length=a:=by rw[h1];simp
   show pn (s.take a.length) (s.drop a.length)=_;rw[d1,d2]
  have no:kC s=none->mW ((s,((),((),()))),((([]:B),((0:Int),(([]:B),()))),((s,((0:Int),(([]:B),()))),())))=some (.inr (((),(false,())),((([]:B),((0:Int),(([]:B),()))),())))->
    f169 ((s,()),())=some (((),((eJ s).isSome,())),((((eJ s).getD iu).name,(((eJ s).getD iu).kind,(((eJ s).getD iu).aX,()))),())):=by
   intro hr hg;simp only[f169,hg,Option.bind_some];unfold eJ;rw[hr];rfl
  have hx:x=61\/x=60\/x=62:=by simpa[eS] using h2
  have uq:a.length<=1000000:=by omega
  have my:r.length<=1000000:=by simp at hl;omega
  rcases hx with rfl|rfl|rfl
  ·have hn:dX [62,61] (61::r)=none:=by unfold dX;cases r<;>simp
   rw[hn] at hp;refine fin ⟨a,1,r⟩ uq my dW ?_
   have bC:bm (61::r) 1 (((61::r).length:Nat):Int)=some r:=fc (xs:=61::r) (a:=1) (by simp)
   have t1:((((61:UInt8).toNat:Nat):Int)==61)=true:=rfl;simp only[mW,dY,Option.bind_some,oG,aa,cond_true,e1,e2,hp,Option.isSome_none,cond_false,ox,t1,bC]
  ·have hn:dX [62,61] (60::r)=none:=by unfold dX;cases r<;>simp
   rw[hn] at hp;refine fin ⟨a,3,r⟩ uq my dW ?_
   have bC:bm (60::r) 1 (((60::r).length:Nat):Int)=some r:=fc (xs:=60::r) (a:=1) (by simp)
   have t1:((((60:UInt8).toNat:Nat):Int)==61)=false:=rfl;have t2:((((60:UInt8).toNat:Nat):Int)==60)=true:=rfl;simp only[mW,dY,Option.bind_some,oG,aa,cond_true,e1,e2,hp,Option.isSome_none,cond_false,ox,t1,t2,bC]
  ·have t1:((((62:UInt8).toNat:Nat):Int)==61)=false:=rfl;have t2:((((62:UInt8).toNat:Nat):Int)==60)=false:=rfl;cases r with
   |nil=>
    have hn:dX [62,61] ([62]:B)=none:=by decide
    rw[hn] at hp;refine no dW ?_
    simp only[mW,dY,Option.bind_some,oG,aa,cond_true,e1,e2,hp,Option.isSome_none,cond_false,ox,t1,t2]
   |cons b r=>
    by_cases hb:b=61
    ·subst hb;have hn:dX [62,61] (62::61::r)=some r:=va [62,61] r;rw[hn] at hp;refine fin ⟨a,2,r⟩ uq (by simp at my;show r.length<=1000000;omega) dW ?_
     have bC:bm (62::61::r) 2 (((62::61::r).length:Nat):Int)=some r:=fc (xs:=62::61::r) (a:=2) (by simp)
     simp only[mW,dY,Option.bind_some,oG,aa,cond_true,e1,e2,hp,Option.isSome_some,bC]
    ·have hn:dX [62,61] (62::b::r)=none:=by
      have hb2:(b==61)=false:=by simpa using hb
      unfold dX;simp[hb2]
     rw[hn] at hp;refine no (dW.trans ?_) ?_
     ·unfold pn;split
      ·rename_i h;simp at h;exact absurd h.1 hb
      ·rename_i h;simp at h
      ·rename_i h;simp at h
      ·rfl
     ·simp only[mW,dY,Option.bind_some,oG,aa,cond_true,e1,e2,hp,Option.isSome_none,cond_false,ox,t1,t2]
theorem Rq{s:B}(h:∀x,x∈s->(97<=x.toNat/\x.toNat<=122)\/(48<=x.toNat/\x.toNat<=57)):∀y,y∈s->eS.contains y=false:=by
 intro y hy;have:=h y hy;cases hc:eS.contains y with
 |false=>rfl
 |true=>
  have hx:y=61\/y=60\/y=62:=by simpa[eS] using hc
  rcases hx with rfl|rfl|rfl<;>simp at this
theorem ahZ{n:bv}(h:dC n=true):kC (cK n)=some n:=by
 obtain⟨h1,h2⟩:=yl h;have hno:=Rq (EL h1);obtain⟨bN,k,v⟩:=n;have key:∀(x:UInt8) (t:B),eS.contains x=true->kC (bN++x::t)=pn bN (x::t):=by
  intro x t hx;unfold kC;rw[anu hno hx];have d1:(bN++x::t).drop bN.length=x::t:=by simp
  have d2:(bN++x::t).take bN.length=bN:=by simp
  show pn ((bN++x::t).take bN.length) ((bN++x::t).drop bN.length)=_;rw[d1,d2]
 rcases h2 with⟨hk,hv⟩|⟨hk,hv⟩
 ·have hk:k=0:=hk;have hv:v=[]:=hv;subst hk hv;have e:cK ⟨bN,0,[]⟩=bN:=by unfold cK dO;simp
  rw[e];unfold kC;rw[apa hno];rfl
 ·rcases hk with hk|hk|hk
  ·have hk:k=1:=hk;subst hk;have e:cK ⟨bN,1,v⟩=bN++61::v:=by unfold cK dO;simp
   rw[e,key 61 v (by decide)];rfl
  ·have hk:k=2:=hk;subst hk;have e:cK ⟨bN,2,v⟩=bN++62::61::v:=by unfold cK dO;simp
   rw[e,key 62 (61::v) (by decide)];rfl
  ·have hk:k=3:=hk;subst hk;have e:cK ⟨bN,3,v⟩=bN++60::v:=by unfold cK dO;simp
   rw[e,key 60 v (by decide)];rfl
theorem akP{n:bv}(h:dC n=true):eJ (cK n)=some n:=by
 unfold eJ;rw[ahZ h];simp[h]
noncomputable abbrev auq:a_:=[(114,w0),(115,Di),(216,Z7)]
theorem Dp:aQ O (aW ad auq):=aV ⟨CU,Kj,arD,⟨⟩⟩
abbrev SV:Shape:=⟨[ay 2 2 0,aj 3,ao 4,aj 6,ao 7,aI 8 .str],[ax 2 [ah,aZ,aZ,ah]],110⟩
abbrev Sy:List aP:=[(.norm,⟨[ay 2 2 0,aj 3,ao 4,aj 6,aI 8 .str,ao 26],[ax 2 [ah,aZ,aZ,ah]],110⟩)]
noncomputable def vI(y:SV.J):Option (aB Sy):=
 bif(!(!y.1.2.2.2.2.1)) then
 some (((),y.1.2.1,y.1.2.2.1,y.1.2.2.2.1,y.1.2.2.2.2.2.1,(decide ((y.1.2.2.2.2.2.1.length:Int)<(3:Int))),()),(y.2.1.1,y.2.1.2.1,y.2.1.2.2.1,y.2.1.2.2.2.1,()),())
else
 some (((),y.1.2.1,y.1.2.2.1,y.1.2.2.2.1,y.1.2.2.2.2.2.1,true,()),(y.2.1.1,y.2.1.2.1,y.2.1.2.2.1,y.2.1.2.2.2.1,()),())
theorem amh:aS O (am (codeOf Tryz.f170) 1 60) (aU SV Sy vI):=cd Dp (by kernel_rfl) ae fun y=>by kernel_rfl
abbrev Qg:Shape:=⟨[ay 2 2 0,aj 3,ao 4,aj 6,aI 8 .str,ag 9],[ax 2 [ah,aZ,aZ,ah]],110⟩
abbrev PX:List aP:=[(.norm,⟨[ay 2 2 0,aj 3,ao 4,aj 6,aI 8 .str,ag 9,ao 74],[ax 2 [ah,aZ,aZ,ah]],110⟩)]
noncomputable def FX(y:Qg.J):Option (aB PX):=
(aO y.1.2.2.2.2.1 (0:Int)).bind fun a=>
 bif(!(!(a==([102,105,108,101]:B)))) then
 some (((),y.1.2.1,y.1.2.2.1,y.1.2.2.2.1,y.1.2.2.2.2.1,y.1.2.2.2.2.2.1,((y.1.2.2.2.2.1.length:Int) !=(4:Int)),()),(y.2.1.1,y.2.1.2.1,y.2.1.2.2.1,y.2.1.2.2.2.1,()),())
else
 some (((),y.1.2.1,y.1.2.2.1,y.1.2.2.2.1,y.1.2.2.2.2.1,y.1.2.2.2.2.2.1,true,()),(y.2.1.1,y.2.1.2.1,y.2.1.2.2.1,y.2.1.2.2.2.1,()),())
theorem aie:aS O (am (codeOf Tryz.f170) 1 2044) (aU Qg PX FX):=cd Dp (by kernel_rfl) ae fun y=>by kernel_rfl
abbrev Qf:Shape:=⟨[ay 2 2 0,aj 3,ao 4,aj 6,aI 8 .str,ag 9,ao 10,ag 11],[ax 2 [ah,aZ,aZ,ah]],110⟩
abbrev PW:List aP:=[(.norm,⟨[ay 2 2 0,aj 3,ao 4,aj 6,aI 8 .str,ag 9,ag 11,ao 96],[ax 2 [ah,aZ,aZ,ah]],110⟩)]
noncomputable def FW(y:Qf.J):Option (aB PW):=
 bif(!(!y.1.2.2.2.2.2.2.1)) then
 bif(!(decide ((y.1.2.2.2.1.length:Int)<=y.1.2.2.2.2.2.2.2.1))) then
(aO y.1.2.2.2.1 y.1.2.2.2.2.2.2.2.1).bind fun a=>
 some (((),y.1.2.1,y.1.2.2.1,y.1.2.2.2.1,y.1.2.2.2.2.1,y.1.2.2.2.2.2.1,y.1.2.2.2.2.2.2.2.1,((a.toNat:Int) !=(10:Int)),()),(y.2.1.1,y.2.1.2.1,y.2.1.2.2.1,y.2.1.2.2.2.1,()),())
else
 some (((),y.1.2.1,y.1.2.2.1,y.1.2.2.2.1,y.1.2.2.2.2.1,y.1.2.2.2.2.2.1,y.1.2.2.2.2.2.2.2.1,true,()),(y.2.1.1,y.2.1.2.1,y.2.1.2.2.1,y.2.1.2.2.2.1,()),())
else
 some (((),y.1.2.1,y.1.2.2.1,y.1.2.2.2.1,y.1.2.2.2.2.1,y.1.2.2.2.2.2.1,y.1.2.2.2.2.2.2.2.1,true,()),(y.2.1.1,y.2.1.2.1,y.2.1.2.2.1,y.2.1.2.2.2.1,()),())
theorem aid:aS O (am (codeOf Tryz.f170) 1 8188) (aU Qf PW FW):=cd Dp (by kernel_rfl) ae fun y=>by kernel_rfl
abbrev i170:Shape:=⟨[aj 0],[],110⟩
abbrev Kz:Shape:=⟨[ay 2 2 0,aj 3,ao 4],[ax 2 [ah,aZ,aZ,ah]],110⟩
noncomputable def f170(a:i170.J):Option Kz.J:=
(f114 ((a.1.1,([10]:B),()),())).bind fun b=>
(f216 ((b.1.1,([32]:B),(5:Int),()),())).bind fun c=>
(vI (((),([]:B),false,b.1.2.1,b.1.2.2.1,c.1.1,()),(([]:B),(0:Int),(0:Int),([]:B),()),())).bind fun d=>
 bif d.1.2.2.2.2.2.1 then
 some (((),([]:B),false,()),(([]:B),(0:Int),(0:Int),([]:B),()),())
else
(aO d.1.2.2.2.2.1 (0:Int)).bind fun e=>
 bif(e==([108,105,110,107]:B)) then
(aO d.1.2.2.2.2.1 (1:Int)).bind fun f=>
(aO d.1.2.2.2.2.1 (2:Int)).bind fun g=>
 some (((),d.1.2.2.2.1,((d.1.2.2.2.2.1.length:Int)==(3:Int)),()),(f,(3:Int),(0:Int),g,()),())
else
(aO d.1.2.2.2.2.1 (1:Int)).bind fun h=>
(f115 ((h,(7:Int),()),())).bind fun i=>
 bif(!i.1.2.1) then
 some (((),([]:B),false,()),(([]:B),(0:Int),(0:Int),([]:B),()),())
else
(aO d.1.2.2.2.2.1 (0:Int)).bind fun j=>
 bif(j==([100,105,114]:B)) then
(aO d.1.2.2.2.2.1 (2:Int)).bind fun k=>
 some (((),d.1.2.2.2.1,((d.1.2.2.2.2.1.length:Int)==(3:Int)),()),(k,(1:Int),i.1.1,([]:B),()),())
else
(FX (((),d.1.2.1,d.1.2.2.1,d.1.2.2.2.1,d.1.2.2.2.2.1,i.1.1,()),(d.2.1.1,d.2.1.2.1,d.2.1.2.2.1,d.2.1.2.2.2.1,()),())).bind fun l=>
 bif l.1.2.2.2.2.2.2.1 then
 some (((),([]:B),false,()),(([]:B),(0:Int),(0:Int),([]:B),()),())
else
(aO l.1.2.2.2.2.1 (3:Int)).bind fun m=>
(f115 ((m,(80:Int),()),())).bind fun n=>
(FW (((),l.1.2.1,l.1.2.2.1,l.1.2.2.2.1,l.1.2.2.2.2.1,l.1.2.2.2.2.2.1,n.1.2.1,n.1.1,()),(l.2.1.1,l.2.1.2.1,l.2.1.2.2.1,l.2.1.2.2.2.1,()),())).bind fun D=>
 bif D.1.2.2.2.2.2.2.2.1 then
 some (((),([]:B),false,()),(([]:B),(0:Int),(0:Int),([]:B),()),())
else
(aO D.1.2.2.2.2.1 (2:Int)).bind fun p=>
(bm D.1.2.2.2.1 (0:Int) D.1.2.2.2.2.2.2.1).bind fun q=>
(bm D.1.2.2.2.1 (IntKind.i64.wrap (D.1.2.2.2.2.2.2.1+(1:Int))) (D.1.2.2.2.1.length:Int)).bind fun r=>
 some (((),r,true,()),(p,(2:Int),D.1.2.2.2.2.2.1,q,()),())
noncomputable def _u:aD:=aG ad Tryz.f170 i170 Kz [] f170
theorem arW:aA O 170 _u:=aK Dp Tryz.func170 (by kernel_rfl) (a7 amh (a7 aie (a7 aid ae))) (fun y=>by kernel_rfl) fun a=>by kernel_rfl
def Cv(aY w2 cf r:B):Option (aw×B):=bif fi 80 cf then(match r.drop (db cf).toNat with|10::eH=>some (⟨w2,2,db aY,r.take (db cf).toNat⟩,eH)|_=>none) else none
def jN(ws:List B)(r:B):Option (aw×B):=match ws with
 |U::aY::w2::more=>
  bif U==hS then(bif more==[] then some (⟨aY,3,0,w2⟩,r) else none)
  else bif fi 7 aY then
   (bif U==hU then(bif more==[] then some (⟨w2,1,db aY,[]⟩,r) else none)
   else bif U==ik then(match more with|[cf]=>Cv aY w2 cf r|_=>none) else none)
  else none
 |_=>none
def nb(s:B):Option (aw×B):=match dv 10 s with
 |some (bX,r)=>jN (splitN 32 4 bX) r
 |none=>none
theorem agf{m:Int}{s:B}(h:fi m s=true):0<=db s/\db s<=m:=by
 unfold fi at h;simp only[Bool.and_eq_true,decide_eq_true_eq] at h;refine⟨?_,h.2⟩;have key:∀(s:B) (n:Int),s.all cO=true->0<=n->0<=s.foldl eg n:=by
  intro s;induction s with
  |nil=>intro n _ h;exact h
  |cons b s ih=>
   intro n aa hn;simp only[List.all_cons,Bool.and_eq_true] at aa;have hb:=iO aa.1;refine ih _ aa.2 ?_
   unfold eg;omega
 exact key s 0 h.1.1.1.1 (by decide)
theorem qf(c:UInt8):∀(k:Nat) (s p:B),p∈splitN c k s->p.length<=s.length:=by
 intro k;induction k with
 |zero=>intro s p h;simp[splitN] at h;subst h;exact Nat.le_refl _
 |succ k ih=>
  intro s p h;unfold splitN at h;cases hc:dv c s with
  |none=>rw[hc] at h;simp at h;subst h;exact Nat.le_refl _
  |some q=>
   obtain⟨x,y⟩:=q;rw[hc] at h;have hl:=(jh hc).1;have hl:s.length=x.length+1+y.length:=by rw[hl];simp;omega
   rcases List.mem_cons.1 h with rfl|h
   ·omega
   ·have:=ih y p h;omega
theorem asO{aH:Type}(a b c:aH)(l:List aH):decide (((a::b::c::l).length:Int)<3)=false:=decide_eq_false (by simp;omega)
theorem ayt{aH:Type}[BEq aH](a b c:aH)(l:List aH):(((a::b::c::l).length:Int)==3)=(l==[]):=by
 cases l with
 |nil=>rfl
 |cons x l=>
  have h:((x::l)==([]:List aH))=false:=rfl;rw[h,beq_eq_false_iff_ne];simp;omega
theorem Ou(s:B)(hs:s.length<=1000000):∃(r:B) (e:aw),f170 ((s,()),())=some (((),(r,((nb s).isSome,()))),((e.path,(e.kind,(e.mode,(e.text,())))),()))/\∀q,nb s=some q->q=(e,r):=by
 have hc:=m' 10 s (by unfold ar;omega)
 have hc:f114 ((s,(([10]:B),())),())=_:=hc;have zero:∀{D:Option (aw×B)} {x:Option Kz.J},D=none->x=some (((),(([]:B),(false,()))),((([]:B),((0:Int),((0:Int),(([]:B),())))),()))->
   ∃(r:B) (e:aw),x=some (((),(r,(D.isSome,()))),((e.path,(e.kind,(e.mode,(e.text,())))),()))/\∀q,D=some q->q=(e,r):=by
  intro D x aM hx;subst aM;exact⟨[],⟨[],0,0,[]⟩,hx,fun q az=>by cases az⟩
 cases az:dv 10 s with
 |none=>
  have hw:=PK (g' 10 s) (by unfold g';rw[az];show s.length<=1000000000;omega)
  rw[az] at hc;refine zero (by unfold nb;rw[az]) ?_
  simp only[f170,hc,Option.bind_some,hw,vI,Option.isSome_none,Bool.not_false,Bool.not_true,cond_false,cond_true]
 |some q=>
  obtain⟨bX,rest⟩:=q;have hl:=(jh az).1;have hl:s.length=bX.length+1+rest.length:=by rw[hl];simp;omega
  have ha:g' 10 s=bX:=by unfold g';rw[az]
  have hb:g_ 10 s=rest:=by unfold g_;rw[az]
  have hw:=PK bX (by omega)
  rw[az,ha,hb] at hc;have hr:nb s=jN (splitN 32 4 bX) rest:=by unfold nb;rw[az]
  have hm:=qf 32 4 bX;rw[hr];generalize splitN 32 4 bX=ws at hw hm;have short:decide ((ws.length:Int)<3)=true->jN ws rest=none->∃(r:B) (e:aw),f170 ((s,()),())=some (((),(r,((jN ws rest).isSome,()))),((e.path,(e.kind,(e.mode,(e.text,())))),()))/\∀q,jN ws rest=some q->q=(e,r):=by
   intro h1 h2;refine zero h2 ?_
   simp only[f170,hc,Option.bind_some,hw,vI,Option.isSome_some,Bool.not_false,Bool.not_true,cond_false,cond_true,h1]
  match ws,short,hw,hm with
  |[],short,hw,hm=>exact short rfl rfl
  |[_],short,hw,hm=>exact short rfl rfl
  |[_,_],short,hw,hm=>exact short rfl rfl
  |U::aY::w2::more,_,hw,hm=>
   have fa:aO (U::aY::w2::more) (0:Int)=some U:=rfl;have ei:aO (U::aY::w2::more) (1:Int)=some aY:=rfl;have fR:aO (U::aY::w2::more) (2:Int)=some w2:=rfl;have h3:=asO U aY w2 more;have dF:=ayt U aY w2 more;have m1:=hm aY (by simp)
   have n1:=yG aY 7 (by unfold ar;omega)
   simp only[f170,hc,Option.bind_some,hw,vI,Option.isSome_some,Bool.not_false,Bool.not_true,cond_false,cond_true,h3,fa,ei,fR,dF,n1];unfold jN;have CF:(U==([108,105,110,107]:B))=(U==hS):=rfl;have wS:(U==([100,105,114]:B))=(U==hU):=rfl;have tr:(U==([102,105,108,101]:B))=(U==ik):=rfl;simp only[CF,wS];cases e4:U==hS with
   |true=>
    simp only[cond_true];refine⟨rest,⟨aY,3,0,w2⟩,?_,fun q az=>?_⟩
    ·cases more==[]<;>rfl
    ·cases Mr:more==[]<;>rw[Mr] at az<;>simp at az
     exact az.symm
   |false=>
    simp only[cond_false];cases Et:fi 7 aY with
    |false=>
     simp only[Bool.not_false,cond_true,cond_false];exact zero rfl rfl
    |true=>
     simp only[Bool.not_true,cond_true,cond_false];cases Eu:U==hU with
     |true=>
      simp only[cond_true];refine⟨rest,⟨w2,1,db aY,[]⟩,?_,fun q az=>?_⟩
      ·cases more==[]<;>rfl
      ·cases Mr:more==[]<;>rw[Mr] at az<;>simp at az
       exact az.symm
     |false=>
      simp only[cond_false,FX,fa,Option.bind_some,tr];cases aCx:U==ik with
      |false=>
       simp only[Bool.not_false,Bool.not_true,cond_true,cond_false,Option.bind_some];exact zero rfl rfl
      |true=>
       simp only[Bool.not_false,Bool.not_true,cond_true,cond_false,Option.bind_some];match more,hm,fa,ei,fR,h3,dF,hw with
       |[],hm,fa,ei,fR,h3,dF,hw=>exact zero rfl rfl
       |cf::k1::m,hm,fa,ei,fR,h3,dF,hw=>
        have:((((U::aY::w2::cf::k1::m).length:Nat):Int) !=4)=true:=by rw[bne_iff_ne];simp;omega
        simp only[this,cond_true];exact zero rfl rfl
       |[cf],hm,fa,ei,fR,h3,dF,hw=>
        have aC:(((([U,aY,w2,cf]:List B).length:Nat):Int) !=4)=false:=rfl;have jC:aO [U,aY,w2,cf] (3:Int)=some cf:=rfl;have m3:=hm cf (by simp)
        have iN:=yG cf 80 (by unfold ar;omega)
        simp only[aC,cond_false,jC,Option.bind_some,iN,FW];unfold Cv;cases x_:fi 80 cf with
        |false=>
         simp only[Bool.not_false,Bool.not_true,cond_true,cond_false,Option.bind_some];exact zero rfl rfl
        |true=>
         obtain⟨b1,b2⟩:=agf x_;obtain⟨n,hn⟩:=Int.eq_ofNat_of_zero_le b1;simp only[Bool.not_false,Bool.not_true,cond_true,cond_false,Option.bind_some,hn,Int.toNat_natCast];rw[hn] at b2;by_cases hle:rest.length<=n
         ·have d1:decide (((rest.length:Nat):Int)<=(n:Int))=true:=decide_eq_true (by omega)
          have d2:rest.drop n=[]:=List.drop_eq_nil_of_le hle;simp only[d1,Bool.not_true,cond_false,Option.bind_some,cond_true,d2];exact zero rfl rfl
         ·have d1:decide (((rest.length:Nat):Int)<=(n:Int))=false:=decide_eq_false (by omega)
          obtain⟨b,eH,aa⟩:∃b eH,rest.drop n=b::eH:=by
           cases h:rest.drop n with
           |nil=>have:=List.drop_eq_nil_iff.1 h;omega
           |cons b eH=>exact⟨b,eH,rfl⟩
          have axI:aO rest (n:Int)=some b:=by
           rw[b4];have:rest[n]? =(rest.drop n)[0]? :=by simp
           rw[this,aa];rfl
          simp only[d1,Bool.not_false,cond_true,axI,Option.bind_some,aa];by_cases MR:b=10
          ·subst MR;have t:((((10:UInt8).toNat:Nat):Int) !=10)=false:=rfl;have s1:bm rest 0 (n:Int)=some (rest.take n):=gj (by omega)
           have hw1:IntKind.i64.wrap ((n:Int)+1)=((n+1:Nat):Int):=bU (by unfold ar;omega)
           have c_:rest.drop (n+1)=eH:=by rw[<-List.drop_drop,aa];rfl
           have s2:bm rest ((n+1:Nat):Int) ((rest.length:Nat):Int)=some eH:=by rw[fc (by omega),c_]
           simp only[t,cond_false,s1,hw1,s2,Option.bind_some];exact⟨eH,⟨w2,2,db aY,rest.take n⟩,rfl,fun q az=>by simp at az;exact az.symm⟩
          ·have t:(((b.toNat:Nat):Int) !=10)=true:=by
            rw[bne_iff_ne];intro h;exact MR (UInt8.toNat_inj.1 (by show b.toNat=10;omega))
           simp only[t,cond_true];refine zero ?_ rfl;split
           ·rename_i h;cases h;exact absurd rfl MR
           ·rfl
noncomputable abbrev auY:a_:=[(105,w1),(170,_u)]
theorem LF:aQ O (aW ad auY):=aV ⟨z105,arW,⟨⟩⟩
abbrev Ql:Shape:=⟨[ba 4 3000256,ay 6 6 0,aj 7,ao 8],[a' 3000256 .entry 4 0,ax 6 [ah,aZ,aZ,ah]],34⟩
abbrev P2:List aP:=[(.norm,⟨[ba 4 3000256,ay 6 6 0,aj 7,ao 24],[a' 3000256 .entry 4 0,ax 6 [ah,aZ,aZ,ah]],34⟩)]
noncomputable def su(y:Ql.J):Option (aB P2):=
 bif(!(!y.1.2.2.2.1)) then
 some (((),(),y.1.2.2.1,((y.2.1.length:Int)==(16:Int)),()),y.2.1,(y.2.2.1.1,y.2.2.1.2.1,y.2.2.1.2.2.1,y.2.2.1.2.2.2.1,()),())
else
 some (((),(),y.1.2.2.1,true,()),y.2.1,(y.2.2.1.1,y.2.2.1.2.1,y.2.2.1.2.2.1,y.2.2.1.2.2.2.1,()),())
theorem aio:aS O (am (c4 (am (codeOf Tryz.f118) 1 60)) 120 3860) (aU Ql P2 su):=cd LF (by kernel_rfl) ae fun y=>by kernel_rfl
abbrev AD:Shape:=⟨[ba 4 3000256,aj 5],[a' 3000256 .entry 4 0],34⟩
abbrev HY:List aP:=[(.ret,⟨[ba 2 3000128,ao 3],[a' 3000128 .entry 2 0],34⟩),(.exit 0,⟨[ba 4 3000256],[a' 3000256 .entry 4 0],34⟩)]
noncomputable def qK(y:AD.J):bG AD HY:=
 bif(!(y.1.2.1==([]:B))) then
(f170 ((y.1.2.1,()),())).bind fun a=>
(su (((),(),a.1.2.1,a.1.2.2.1,()),y.2.1,(a.2.1.1,a.2.1.2.1,a.2.1.2.2.1,a.2.1.2.2.2.1,()),())).bind fun b=>
 bif b.1.2.2.2.1 then
 some (.inr (.inl (((),false,()),([]:List aw),())))
else
(b9 48 b.2.1 ([(aw.mk b.2.2.1.1 b.2.2.1.2.1 b.2.2.1.2.2.1 b.2.2.1.2.2.2.1)]:List aw)).bind fun c=>
 some (.inl (((),b.1.2.2.1,()),c,()))
else
 some (.inr (.inr (((),()),y.2.1,())))
noncomputable def vB:AD.J->Option (aB HY):=br qK
theorem amC:aS O (am (codeOf Tryz.f118) 1 60) (aU AD HY vB):=bH LF (by kernel_rfl) (a7 aio ae) fun y=>by kernel_rfl
abbrev i118:Shape:=⟨[aj 0],[],34⟩
abbrev YU:Shape:=⟨[ba 2 3000128,ao 3],[a' 3000128 .entry 2 0],34⟩
noncomputable def f118(a:i118.J):Option YU.J:=
(vB (((),a.1.1,()),([]:List aw),())).bind fun b=>
(match b with
|.inl c=>
 some (((),c.1.2.1,()),c.2.1,())
|.inr d=>
(f105 ((d.2.1,()),())).bind fun e=>
 bif(!e.1.1) then
 some (((),false,()),([]:List aw),())
else
 some (((),true,()),d.2.1,()))
noncomputable def _Y:aD:=aG ad Tryz.f118 i118 YU [] f118
theorem ase:aA O 118 _Y:=aK LF Tryz.func118 (by kernel_rfl) (a7 amC ae) (fun y=>by kernel_rfl) fun a=>by kernel_rfl
theorem GA{n:Nat}{m:Int}(h:(n:Int)<=m)(h':n<1000000000):fi m (Lib.itoa (n:Int))=true/\db (Lib.itoa (n:Int))=(n:Int):=by
 rw[qt];exact⟨aku h h',IX n⟩
theorem Og(ws:List B)(k:Nat)(h:ws≠[])(hn:∀w,w∈ws->b' 32 w)(hk:ws.length<=k+1):splitN 32 k (lx ws)=ws:=by
 have:=Pn h hn;rw[yu 32 k _ (by rw[this];exact hk),this]
theorem Qq{e:aw}(h:eN e=true)(r:B):nb (dZ e++r)=some (e,r):=by
 have hw:=(Fg h).1;unfold nb;rw[QA h];show jN (splitN 32 4 (pq e)) (wj e r)=_;obtain⟨n,hn,ia⟩:=GB h;obtain⟨g1,g2⟩:=GA (n:=n) (m:=7) (by omega) (by omega)
 have rm:splitN 32 4 (pq e)=l9 e:=Og _ 4 (by unfold l9;cases e.kind==1<;>cases e.kind==3<;>simp) hw (by unfold l9;cases e.kind==1<;>cases e.kind==3<;>simp)
 rw[rm];obtain⟨p,k,m,t⟩:=e;have hn:m=n:=hn;subst hn;rcases u0 h with hk|hk|hk
 ·have hk:k=1:=hk;subst hk;have au:t=[]:=QL h rfl;subst au;show jN [hU,Lib.itoa (n:Int),p] r=_;unfold jN;have e1:(hU==hS)=false:=by decide
  have e2:(hU==hU)=true:=by decide
  simp only[e1,e2,g1,g2,cond_true,cond_false];rfl
 ·have hk:k=2:=hk;subst hk;have hb:t.length<=80:=by
   have:=Pt h rfl;unfold n' at this;simp only[Bool.and_eq_true,decide_eq_true_eq] at this;exact this.2
  obtain⟨aE,aF⟩:=GA (n:=t.length) (m:=80) (by omega) (by omega)
  show jN [ik,Lib.itoa (n:Int),p,Lib.itoa (t.length:Int)] (t++10::r)=_;unfold jN;have e1:(ik==hS)=false:=by decide
  have e2:(ik==hU)=false:=by decide
  have bC:(ik==ik)=true:=by decide
  simp only[e1,e2,bC,g1,g2,cond_true,cond_false];unfold Cv;have d1:(t++10::r).drop t.length=10::r:=by simp
  have d2:(t++10::r).take t.length=t:=by simp
  simp only[aE,aF,cond_true,Int.toNat_natCast,d1,d2,g2]
 ·have hk:k=3:=hk;subst hk;obtain⟨_,hm⟩:=Fb h rfl;have hm:(n:Int)=0:=hm;show jN [hS,p,t] r=_;unfold jN;have e1:(hS==hS)=true:=by decide
  simp only[e1,cond_true];rw[hm];rfl
theorem FD{s r:B}{e:aw}(h:nb s=some (e,r)):e.path.length<=s.length/\e.text.length<=s.length/\r.length<s.length:=by
 unfold nb at h;cases az:dv 10 s with
 |none=>rw[az] at h;cases h
 |some q=>
  obtain⟨bX,rest⟩:=q;rw[az] at h;have hl:=(jh az).1;have hl:s.length=bX.length+1+rest.length:=by rw[hl];simp;omega
  have hm:=qf 32 4 bX;have h:jN (splitN 32 4 bX) rest=some (e,r):=h;generalize splitN 32 4 bX=ws at h hm;match ws,h,hm with
  |[],h,hm=>cases h
  |[_],h,hm=>cases h
  |[_,_],h,hm=>cases h
  |U::aY::w2::more,h,hm=>
   have m1:=hm aY (by simp)
   have m2:=hm w2 (by simp)
   unfold jN at h;simp only at h;cases e4:U==hS<;>simp only[e4,cond_true,cond_false] at h
   ·cases e1:fi 7 aY<;>simp only[e1,cond_true,cond_false] at h
    ·cases h
    ·cases e2:U==hU<;>simp only[e2,cond_true,cond_false] at h
     ·cases bC:U==ik<;>simp only[bC,cond_true,cond_false] at h
      ·cases h
      ·split at h
       ·rename_i cf;unfold Cv at h;cases dy:fi 80 cf<;>simp only[dy,cond_true,cond_false] at h
        ·cases h
        ·split at h
         ·rename_i eH aa;simp only[Option.some.injEq,Prod.mk.injEq] at h;obtain⟨rfl,rfl⟩:=h;have Mu:=congrArg List.length aa;simp only[List.length_drop,List.length_cons] at Mu;refine⟨by show w2.length<=_;omega,by show(rest.take _).length<=_;simp;omega,by omega⟩
         ·cases h
       ·cases h
     ·cases bC:more==[]<;>simp only[bC,cond_true,cond_false] at h
      ·cases h
      ·simp only[Option.some.injEq,Prod.mk.injEq] at h;obtain⟨rfl,rfl⟩:=h;exact⟨by show w2.length<=_;omega,by show 0<=_;omega,by omega⟩
   ·cases bC:more==[]<;>simp only[bC,cond_true,cond_false] at h
    ·cases h
    ·simp only[Option.some.injEq,Prod.mk.injEq] at h;obtain⟨rfl,rfl⟩:=h;exact⟨by show aY.length<=_;omega,by show w2.length<=_;omega,by omega⟩
def pL(k:Nat)(t:List aw):Prop:=∀e,e∈t->e.path.length<=k/\e.text.length<=k
theorem anZ:∀(m:Nat) (s:B) (t:List aw),s.length<=m->m<=1000000->t.length<=16->pL 1000000 t->
  (∃ns:List aw,vB (((),(s,())),(t,()))=some (.inr (((),()),(ns,())))/\ns.length<=16/\pL 1000000 ns)\/vB (((),(s,())),(t,()))=some (.inl (((),(false,())),(([]:List aw),()))):=by
 intro m;induction m with
 |zero=>
  intro s t hs _ au ha;have:s=[]:=List.length_eq_zero_iff.1 (by omega)
  subst this;exact .inl ⟨t,cp rfl,au,ha⟩
 |succ m ih=>
  intro s t hs hm au ha;cases s with
  |nil=>exact .inl ⟨t,cp rfl,au,ha⟩
  |cons b iw=>
   have hne:((b::iw)==([]:B))=false:=rfl;generalize eI:b::iw=s at hs hne;obtain⟨r,e,h1,h2⟩:=Ou s (by omega)
   cases hr:nb s with
   |none=>
    rw[hr] at h1;refine .inr (cp ?_);simp only[qK,hne,Bool.not_false,cond_true,h1,Option.bind_some,Option.isSome_none,su,Bool.not_true,cond_false]
   |some q=>
    have az:=h2 q hr;subst az;rw[hr] at h1;obtain⟨dQ,fy,uH⟩:=FD hr;by_cases xK:t.length=16
    ·refine .inr (cp ?_);have d:(((t.length:Nat):Int)==16)=true:=by rw[beq_iff_eq];omega
     simp only[qK,hne,Bool.not_false,cond_true,h1,Option.bind_some,Option.isSome_some,su,Bool.not_true,cond_false,d]
    ·have d:(((t.length:Nat):Int)==16)=false:=by rw[beq_eq_false_iff_ne];omega
     have fo:b9 48 t ([(aw.mk e.path e.kind e.mode e.text)]:List aw)=some (t++[e]):=dh (by decide) (by unfold ar;simp;omega)
     have st:qK (((),(s,())),(t,()))=some (.inl (((),(r,())),(t++[e],()))):=by
      simp only[qK,hne,Bool.not_false,cond_true,h1,Option.bind_some,Option.isSome_some,su,Bool.not_true,cond_false,d,fo]
     have aty:pL 1000000 (t++[e]):=fun x hx=>by
      rcases List.mem_append.1 hx with hx|hx
      ·exact ha x hx
      ·rw[List.mem_singleton.1 hx];exact⟨by omega,by omega⟩
     rcases ih r (t++[e]) (by omega) (by omega) (by simp;omega) aty with⟨ns,g1,g2,g3⟩|g1
     ·exact .inl ⟨ns,(dN st).trans g1,g2,g3⟩
     ·exact .inr ((dN st).trans g1)
theorem anY:∀(ci t:List aw),(∀e,e∈ci->eN e=true)->t.length+ci.length<=16->(da ci).length<=1000000->
  vB (((),(da ci,())),(t,()))=some (.inr (((),()),(t++ci,()))):=by
 intro ci;induction ci with
 |nil=>intro t _ _ _;rw[List.append_nil];exact cp rfl
 |cons e ci ih=>
  intro t h au hl;have he:=h e List.mem_cons_self;have hr:=Qq he (da ci);have hE:da (e::ci)=dZ e++da ci:=by unfold da;rw[List.flatMap_cons]
  rw[hE] at hl ⊢;have hlen:=(FD hr).2.2;have hne:((dZ e++da ci)==([]:B))=false:=by
   cases hx:dZ e++da ci with
   |nil=>rw[hx] at hlen;simp at hlen
   |cons b r=>rfl
  obtain⟨r,cI,h1,h2⟩:=Ou (dZ e++da ci) hl;have az:=h2 _ hr;simp only[Prod.mk.injEq] at az;obtain⟨rfl,rfl⟩:=az;rw[hr] at h1;have d:(((t.length:Nat):Int)==16)=false:=by rw[beq_eq_false_iff_ne];simp at au;omega
  have fo:b9 48 t ([(aw.mk e.path e.kind e.mode e.text)]:List aw)=some (t++[e]):=dh (by decide) (by unfold ar;simp;simp at au;omega)
  have st:qK (((),(dZ e++da ci,())),(t,()))=some (.inl (((),(da ci,())),(t++[e],()))):=by
   simp only[qK,hne,Bool.not_false,cond_true,h1,Option.bind_some,Option.isSome_some,su,Bool.not_true,cond_false,d,fo]
  have:=ih (t++[e]) (fun x hx=>h x (List.mem_cons_of_mem _ hx)) (by simp at au ⊢;omega) (by omega)
  rw[List.append_assoc] at this;exact(dN st).trans this
theorem aeg(s:B)(hs:s.length<=1000000):∃(ok:Bool) (t:List aw),f118 ((s,()),())=some (((),(ok,())),(t,()))/\t.length<=16/\pL 1000000 t:=by
 rcases anZ s.length s [] (Nat.le_refl _) hs (by decide) (fun x hx=>by cases hx) with⟨ns,g1,g2,g3⟩|g1
 ·have au:=qi ((ns,()),()) ⟨by show ns.length<=2097152;omega,fun e he=>by have:=g3 e he;exact⟨by show e.path.length<=2097152;omega,by show e.text.length<=2097152;omega⟩⟩
  have au:f105 ((ns,()),())=some ((dB ns,()),()):=au;simp only[f118,g1,Option.bind_some,au];cases dB ns with
  |false=>exact⟨false,[],rfl,by simp,fun x hx=>by cases hx⟩
  |true=>exact⟨true,ns,rfl,g2,g3⟩
 ·simp only[f118,g1,Option.bind_some];exact⟨false,[],rfl,by simp,fun x hx=>by cases hx⟩
theorem aef(t:List aw)(h:dB t=true)(hs:(da t).length<=1000000)(hb:iq t):
  f118 ((da t,()),())=some (((),(true,())),(t,())):=by
 have g1:=anY t [] (uW h) (by have:=jG h;simpa using this) hs
 have au:=qi ((t,()),()) hb;have au:f105 ((t,()),())=some ((dB t,()),()):=au;simp only[f118,g1,List.nil_append,Option.bind_some,au,h,Bool.not_true,cond_false]
noncomputable abbrev auZ:a_:=[(114,w0),(168,_w),(169,_v)]
theorem LG:aQ O (aW ad auZ):=aV ⟨CU,z168,arX,⟨⟩⟩
abbrev Qm:Shape:=⟨[ba 5 3000320,aj 7,ao 10,ay 11 11 0,ao 12],[a' 3000320 .need 5 0,ax 11 [ah,aZ,ah]],46⟩
abbrev P3:List aP:=[(.norm,⟨[ba 5 3000320,aj 7,ay 11 11 0,ao 40],[a' 3000320 .need 5 0,ax 11 [ah,aZ,ah]],46⟩)]
noncomputable def u_(y:Qm.J):Option (aB P3):=
 bif(!(!y.1.2.2.1)) then
 some (((),y.1.2.1,(),(!y.1.2.2.2.2.1),()),y.2.1,(y.2.2.1.1,y.2.2.1.2.1,y.2.2.1.2.2.1,()),())
else
 some (((),y.1.2.1,(),true,()),y.2.1,(y.2.2.1.1,y.2.2.1.2.1,y.2.2.1.2.2.1,()),())
theorem aip:aS O (am (c4 (am (codeOf Tryz.f117) 1 14)) 28 7292) (aU Qm P3 u_):=cd LG (by kernel_rfl) ae fun y=>by kernel_rfl
abbrev AE:Shape:=⟨[aj 0,ba 5 3000320],[a' 3000320 .need 5 0],46⟩
abbrev HZ:List aP:=[(.ret,⟨[ba 2 3000128,aj 3,ao 4],[a' 3000128 .need 2 0],46⟩)]
noncomputable def l7(y:AE.J):bG AE HZ:=
(f114 ((y.1.1,([10]:B),()),())).bind fun a=>
 bif(!a.1.2.2.1) then
 some (.inr (((),([]:B),false,()),([]:List bv),()))
else
 bif(a.1.1==([]:B)) then
 some (.inr (((),a.1.2.1,true,()),y.2.1,()))
else
(f168 ((a.1.1,([110,101,101,100,32]:B),()),())).bind fun b=>
(f169 ((b.1.1,()),())).bind fun c=>
(u_ (((),a.1.2.1,b.1.2.1,(),c.1.2.1,()),y.2.1,(c.2.1.1,c.2.1.2.1,c.2.1.2.2.1,()),())).bind fun d=>
 bif d.1.2.2.2.1 then
 some (.inr (((),([]:B),false,()),([]:List bv),()))
else
(b9 40 d.2.1 ([(bv.mk d.2.2.1.1 d.2.2.1.2.1 d.2.2.1.2.2.1)]:List bv)).bind fun e=>
 some (.inl ((d.1.2.1,(),()),e,()))
noncomputable def AO:AE.J->Option (aB HZ):=br l7
theorem amD:aS O (am (codeOf Tryz.f117) 1 14) (aU AE HZ AO):=bH LG (by kernel_rfl) (a7 aip ae) fun y=>by kernel_rfl
abbrev i117:Shape:=⟨[aj 0],[],46⟩
abbrev YV:Shape:=⟨[ba 2 3000128,aj 3,ao 4],[a' 3000128 .need 2 0],46⟩
noncomputable def f117(a:i117.J):Option YV.J:=
(AO ((a.1.1,(),()),([]:List bv),())).bind fun b=>
 some (((),b.1.2.1,b.1.2.2.1,()),b.2.1,())
noncomputable def _Z:aD:=aG ad Tryz.f117 i117 YV [] f117
theorem z117:aA O 117 _Z:=aK LG Tryz.func117 (by kernel_rfl) (a7 amD ae) (fun y=>by kernel_rfl) fun a=>by kernel_rfl
def tS(k:Nat)(t:List bv):Prop:=∀e,e∈t->e.name.length<=k/\e.aX.length<=k
theorem ahY{a t:B}{n:bv}(h:pn a t=some n):n.name=a/\n.aX.length<=t.length:=by
 unfold pn at h;split at h
 ·cases h;exact⟨rfl,by simp;omega⟩
 ·cases h;exact⟨rfl,by simp⟩
 ·cases h;exact⟨rfl,by simp⟩
 ·cases h
theorem ah0{s:B}{n:bv}(h:kC s=some n):n.name.length<=s.length/\n.aX.length<=s.length:=by
 unfold kC at h;split at h
 ·rename_i k _;obtain⟨h1,h2⟩:=ahY h;rw[h1];simp at h2 ⊢;omega
 ·cases h;exact⟨Nat.le_refl _,by simp⟩
theorem akQ(s:B):((eJ s).getD iu).name.length<=s.length/\((eJ s).getD iu).aX.length<=s.length:=by
 have no:eJ s=none->((eJ s).getD iu).name.length<=s.length/\((eJ s).getD iu).aX.length<=s.length:=fun h=>by
  rw[h];exact⟨Nat.zero_le _,Nat.zero_le _⟩
 cases h:kC s with
 |none=>exact no (by unfold eJ;rw[h])
 |some n=>
  have hG:eJ s=bif dC n then some n else none:=by unfold eJ;rw[h]
  cases hk:dC n with
  |true=>rw[hG,hk];exact ah0 h
  |false=>exact no (by rw[hG,hk];rfl)
theorem QN{p s r:B}(h:dX p s=some r):r.length<=s.length:=by
 unfold dX at h;cases hc:decide (p.length<=s.length)&&s.take p.length==p with
 |false=>rw[hc] at h;cases h
 |true=>rw[hc] at h;cases h;simp
theorem akR(p s:B):((dX p s).getD s).length<=s.length:=by
 cases h:dX p s with
 |none=>exact Nat.le_refl _
 |some r=>exact QN h
theorem an4:∀(m:Nat) (s:B) (t:List bv),s.length<=m->t.length+m<=1000000->tS 1000000 t->
  ∃(r:B) (ok:Bool) (ns:List bv),AO ((s,((),())),(t,()))=some (((),(r,(ok,()))),(ns,()))/\r.length<=s.length/\ns.length<=1000000/\tS 1000000 ns:=by
 intro m;induction m with
 |zero=>
  intro s t hs au ha;have:s=[]:=List.length_eq_zero_iff.1 (by omega)
  subst this;have hc:=m' 10 [] (by unfold ar;simp)
  have hc:f114 ((([]:B),(([10]:B),())),())=some ((([]:B),(([]:B),(false,()))),()):=hc;refine⟨[],false,[],cp ?_,by simp,by simp,fun x hx=>by cases hx⟩
  simp only[l7,hc,Option.bind_some,Bool.not_false,cond_true]
 |succ m ih=>
  intro s t hs au ha;have hc:=m' 10 s (by unfold ar;omega)
  have hc:f114 ((s,(([10]:B),())),())=_:=hc;cases az:dv 10 s with
  |none=>
   rw[az] at hc;refine⟨[],false,[],cp ?_,by simp,by simp,fun x hx=>by cases hx⟩
   simp only[l7,hc,Option.bind_some,Option.isSome_none,Bool.not_false,cond_true]
  |some q=>
   obtain⟨bX,rest⟩:=q;have hl:=(jh az).1;have hl:s.length=bX.length+1+rest.length:=by rw[hl];simp;omega
   have dY:g' 10 s=bX:=by unfold g';rw[az]
   have hB:g_ 10 s=rest:=by unfold g_;rw[az]
   rw[az,dY,hB] at hc;cases he:bX==([]:B) with
   |true=>
    refine⟨rest,true,t,cp ?_,by omega,by omega,ha⟩
    simp only[l7,hc,Option.bind_some,Option.isSome_some,Bool.not_true,cond_false,he,cond_true]
   |false=>
    have hp:=Oy bX [110,101,101,100,32];have hp:f168 ((bX,(([110,101,101,100,32]:B),())),())=_:=hp;have bk:=akR [110,101,101,100,32] bX;generalize(dX [110,101,101,100,32] bX).getD bX=w at hp bk;have hn:=PN w (by omega)
    have DU:=akQ w;cases ca:(dX [110,101,101,100,32] bX).isSome&&(eJ w).isSome with
    |false=>
     refine⟨[],false,[],cp ?_,by simp,by simp,fun x hx=>by cases hx⟩
     simp only[l7,hc,Option.bind_some,Option.isSome_some,Bool.not_true,cond_false,he,hp,hn,u_];cases ia:(dX [110,101,101,100,32] bX).isSome with
     |false=>simp only[Bool.not_false,Bool.not_true,cond_false,cond_true,Option.bind_some]
     |true=>
      rw[ia] at ca;have ca:(eJ w).isSome=false:=ca;simp only[ca,Bool.not_false,Bool.not_true,cond_false,cond_true,Option.bind_some]
    |true=>
     rw[Bool.and_eq_true] at ca;have fo:b9 40 t ([(bv.mk ((eJ w).getD iu).name ((eJ w).getD iu).kind ((eJ w).getD iu).aX)]:List bv)=some (t++[(eJ w).getD iu]):=dh (by decide) (by unfold ar;simp;omega)
     have st:l7 ((s,((),())),(t,()))=some (.inl ((rest,((),())),(t++[(eJ w).getD iu],()))):=by
      simp only[l7,hc,Option.bind_some,Option.isSome_some,Bool.not_true,cond_false,he,hp,hn,u_,ca.1,ca.2,Bool.not_false,cond_true,fo]
     obtain⟨r,ok,ns,g1,g2,g3,g4⟩:=ih rest (t++[(eJ w).getD iu]) (by omega) (by simp;omega) (fun x hx=>by
      rcases List.mem_append.1 hx with hx|hx
      ·exact ha x hx
      ·rw[List.mem_singleton.1 hx];exact⟨by omega,by omega⟩)
     exact⟨r,ok,ns,(dN st).trans g1,by omega,g3,g4⟩
theorem an3:∀(ns t:List bv) (r:B),(∀n,n∈ns->dC n=true)->t.length+ns.length<=1000->(ns.flatMap cz++10::r).length<=1000000->
  AO ((ns.flatMap cz++10::r,((),())),(t,()))=some (((),(r,(true,()))),(t++ns,())):=by
 intro ns;induction ns with
 |nil=>
  intro t r _ _ hs;have hc:=m' 10 (10::r) (by unfold ar;simp at hs ⊢;omega)
  have dY:g' 10 (10::r)=[]:=by unfold g';rw[Js]
  have hB:g_ 10 (10::r)=r:=by unfold g_;rw[Js]
  rw[dY,hB,Js] at hc;have hc:f114 ((10::r,(([10]:B),())),())=some ((([]:B),(r,(true,()))),()):=hc;have he:(([]:B)==([]:B))=true:=rfl;rw[List.append_nil];refine cp ?_
  show l7 ((10::r,((),())),(t,()))=_;simp only[l7,hc,Option.bind_some,Bool.not_true,cond_false,he,cond_true]
 |cons n ns ih=>
  intro t r h au hs;have hk:=h n List.mem_cons_self;have fO:=aiw (n:=n) (ns:=ns) (r:=10::r) hk;generalize eI:(n::ns).flatMap cz++10::r=s at hs fO;have hc:=m' 10 s (by unfold ar;omega)
  have hl:=(jh fO).1;have hl:s.length=(fL++32::cK n).length+1+(ns.flatMap cz++10::r).length:=by rw[hl];simp;omega
  have dY:g' 10 s=fL++32::cK n:=by unfold g';rw[fO]
  have hB:g_ 10 s=ns.flatMap cz++10::r:=by unfold g_;rw[fO]
  rw[dY,hB,fO] at hc;have hc:f114 ((s,(([10]:B),())),())=some ((fL++32::cK n,(ns.flatMap cz++10::r,(true,()))),()):=hc;have he:((fL++32::cK n)==([]:B))=false:=rfl;have aa:dX [110,101,101,100,32] (fL++32::cK n)=some (cK n):=va [110,101,101,100,32] (cK n);have hp:=Oy (fL++32::cK n) [110,101,101,100,32];rw[aa] at hp;have hp:f168 ((fL++32::cK n,(([110,101,101,100,32]:B),())),())=some ((cK n,(true,())),()):=hp;have hn:=PN (cK n) (by simp[fL] at hl;omega)
  rw[akP hk] at hn;have hn:f169 ((cK n,()),())=some (((),(true,())),((n.name,(n.kind,(n.aX,()))),())):=hn;have fo:b9 40 t ([(bv.mk n.name n.kind n.aX)]:List bv)=some (t++[n]):=dh (by decide) (by unfold ar;simp;simp at au;omega)
  have st:l7 ((s,((),())),(t,()))=some (.inl ((ns.flatMap cz++10::r,((),())),(t++[n],()))):=by
   simp only[l7,hc,Option.bind_some,Bool.not_true,cond_false,he,hp,hn,u_,Bool.not_false,cond_true,fo]
  have:=ih (t++[n]) r (fun x hx=>h x (List.mem_cons_of_mem _ hx)) (by simp at au ⊢;omega) (by omega)
  rw[List.append_assoc] at this;exact(dN st).trans this
theorem ad6(s:B)(hs:s.length<=1000000):∃(r:B) (ok:Bool) (ns:List bv),f117 ((s,()),())=some (((),(r,(ok,()))),(ns,()))/\r.length<=s.length/\ns.length<=1000000/\tS 1000000 ns:=by
 obtain⟨r,ok,ns,g1,g2⟩:=an4 s.length s [] (Nat.le_refl _) (by simpa using hs) (fun x hx=>by cases hx)
 exact⟨r,ok,ns,by simp only[f117,g1,Option.bind_some],g2⟩
theorem ad5(ns:List bv)(r:B)(h:∀n,n∈ns->dC n=true)(hl:ns.length<=1000)(hs:(ns.flatMap cz++10::r).length<=1000000):
  f117 ((ns.flatMap cz++10::r,()),())=some (((),(r,(true,()))),(ns,())):=by
 have g1:=an3 ns [] r h (by simpa using hl) hs
 simp only[f117,g1,Option.bind_some,List.nil_append]
noncomputable abbrev azd:a_:=[(36,Ed),(55,D'),(114,w0),(116,_0),(117,_Z),(118,_Y)]
theorem ac6:aQ O (aW ad azd):=aV ⟨LM,LJ,CU,z116,z117,ase,⟨⟩⟩
abbrev P_:Shape:=⟨[aj 0,ay 2 2 0,ay 11 11 0,ao 14],[bp 5000130 .need 2 2,bp 5000131 .entry 2 3,ax 2 [ah,ah,.own 5000130,.own 5000131],bp 5000706 .need 11 2,bp 5000707 .entry 11 3,ax 11 [ah,ah,.own 5000706,.own 5000707]],76⟩
abbrev PP:List aP:=[(.norm,⟨[ay 2 2 0,ay 11 11 0,ao 73],[bp 5000130 .need 2 2,bp 5000131 .entry 2 3,ax 2 [ah,ah,.own 5000130,.own 5000131],bp 5000706 .need 11 2,bp 5000707 .entry 11 3,ax 11 [ah,ah,.own 5000706,.own 5000707]],76⟩)]
noncomputable def qk(y:P_.J):Option (aB PP):=
 bif(!(!y.1.2.2.2.1)) then
(f55 (((y.2.2.2.2.2.2.1.1,y.2.2.2.2.2.2.1.2.1,y.2.2.2.2.1,y.2.2.2.2.2.1,()),()),())).bind fun a=>
 bif(!(!a.1.1)) then
(f36 (((y.2.2.2.2.2.2.1.1,y.2.2.2.2.2.2.1.2.1,y.2.2.2.2.1,y.2.2.2.2.2.1,()),()),())).bind fun b=>
 some (((),(),(!(b.1.1==y.1.1)),()),y.2.1,y.2.2.1,(y.2.2.2.1.1,y.2.2.2.1.2.1,(),(),()),y.2.2.2.2.1,y.2.2.2.2.2.1,(y.2.2.2.2.2.2.1.1,y.2.2.2.2.2.2.1.2.1,(),(),()),())
else
 some (((),(),true,()),y.2.1,y.2.2.1,(y.2.2.2.1.1,y.2.2.2.1.2.1,(),(),()),y.2.2.2.2.1,y.2.2.2.2.2.1,(y.2.2.2.2.2.2.1.1,y.2.2.2.2.2.2.1.2.1,(),(),()),())
else
 some (((),(),true,()),y.2.1,y.2.2.1,(y.2.2.2.1.1,y.2.2.2.1.2.1,(),(),()),y.2.2.2.2.1,y.2.2.2.2.2.1,(y.2.2.2.2.2.2.1.1,y.2.2.2.2.2.2.1.2.1,(),(),()),())
theorem ah3:aS O (am (codeOf Tryz.f67) 1 16380) (aU P_ PP qk):=cd ac6 (by kernel_rfl) ae fun y=>by kernel_rfl
abbrev i67:Shape:=⟨[aj 0],[],76⟩
abbrev xh:Shape:=⟨[ay 2 2 0,ao 3],[bp 5000130 .need 2 2,bp 5000131 .entry 2 3,ax 2 [ah,ah,.own 5000130,.own 5000131]],76⟩
noncomputable def f67(a:i67.J):Option xh.J:=
 bif(decide ((a.1.1.length:Int)>(4000:Int))) then
 some (((),false,()),([]:List bv),([]:List aw),(([]:B),([]:B),(),(),()),())
else
(f114 ((a.1.1,([10]:B),()),())).bind fun b=>
(f114 ((b.1.2.1,([10]:B),()),())).bind fun c=>
(f116 ((c.1.1,([32]:B),()),())).bind fun d=>
 bif((d.1.1.length:Int) !=(3:Int)) then
 some (((),false,()),([]:List bv),([]:List aw),(([]:B),([]:B),(),(),()),())
else
(aO d.1.1 (1:Int)).bind fun e=>
(aO d.1.1 (2:Int)).bind fun f=>
(f117 ((c.1.2.1,()),())).bind fun g=>
 bif(!g.1.2.2.1) then
 some (((),false,()),([]:List bv),([]:List aw),(([]:B),([]:B),(),(),()),())
else
(f118 ((g.1.2.1,()),())).bind fun h=>
(qk ((a.1.1,(),(),h.1.2.1,()),([]:List bv),([]:List aw),(([]:B),([]:B),(),(),()),g.2.1,h.2.1,(e,f,(),(),()),())).bind fun i=>
 bif i.1.2.2.1 then
 some (((),false,()),([]:List bv),([]:List aw),(([]:B),([]:B),(),(),()),())
else
 some (((),true,()),i.2.2.2.2.1,i.2.2.2.2.2.1,(i.2.2.2.2.2.2.1.1,i.2.2.2.2.2.2.1.2.1,(),(),()),())
noncomputable def acG:aD:=aG ad Tryz.f67 i67 xh [] f67
theorem avX:aA O 67 acG:=aK ac6 Tryz.func67 (by kernel_rfl) (a7 ah3 ae) (fun y=>by kernel_rfl) fun a=>by kernel_rfl
theorem EN{aH:Type}(f:aH->B):∀{xs:List aH} {x:aH},x∈xs->(f x).length<=(xs.flatMap f).length:=by
 intro xs;induction xs with
 |nil=>intro x h;cases h
 |cons y bj ih=>
  intro x h;rw[List.flatMap_cons,List.length_append];rcases List.mem_cons.1 h with rfl|h
  ·omega
  ·have:=ih h;omega
theorem aiI{e:aw}(h:eN e=true):e.path.length<=(dZ e).length/\e.text.length<=(dZ e).length:=by
 have hc:=FD (Qq h []);rw[List.append_nil] at hc;exact⟨hc.1,hc.2.1⟩
theorem yA(p:aL):(dt p).length<=(bA p).length/\p.name.length+p.aX.length+(p.bi.flatMap cz++10::da p.bx).length+10<=(dt p).length+10/\(da p.bx).length<=(dt p).length/\(p.bi.flatMap cz).length<=(dt p).length:=by
 have h1:(bA p).length=(eO p).length+1+(dt p).length:=by rw[vu];simp;omega
 have h2:(dt p).length=(ea p).length+1+(iQ p).length:=by rw[vk];simp;omega
 have h3:(ea p).length=4+1+(p.name.length+1+p.aX.length):=by unfold ea;simp[lx,iB];omega
 have aC:(iQ p).length=(p.bi.flatMap cz).length+1+(da p.bx).length:=by unfold iQ;rw[List.length_append,List.length_cons];omega
 have bk:(p.bi.flatMap cz++10::da p.bx).length=(iQ p).length:=rfl;omega
theorem Jo{p:aL}(hk:ch p=true)(hl:(bA p).length<=4000):jB p:=by
 obtain⟨h1,h2,h3,aC,_,ca⟩:=mQ hk;obtain⟨q1,q2,dF,mK⟩:=yA p;refine⟨by show p.name.length<=2097152;omega,by show p.aX.length<=2097152;omega,⟨by show p.bi.length<=2097152;omega,fun n hn=>?_⟩,⟨by show p.bx.length<=2097152;have:=jG ca;omega,fun e he=>?_⟩⟩
 ·have h:=EN cz hn;have iJ:(cz n).length=(cK n).length+6:=by unfold cz;simp
  have hp:n.name.length+n.aX.length<=(cK n).length:=by unfold cK;simp
  exact⟨by show n.name.length<=2097152;omega,by show n.aX.length<=2097152;omega⟩
 ·have h:=EN dZ he;have h:(dZ e).length<=(da p.bx).length:=h;have:=aiI (uW ca e he);exact⟨by show e.path.length<=2097152;omega,by show e.text.length<=2097152;omega⟩
abbrev r'(p:aL):xh.J:=(((),(true,())),(p.bi,(p.bx,((p.name,(p.aX,((),((),())))),()))))
abbrev NJ:xh.J:=(((),(false,())),(([]:List bv),(([]:List aw),((([]:B),(([]:B),((),((),())))),()))))
theorem apc{p q:aL}(h:r' p=r' q):p=q:=by
 obtain⟨a,b,c,d⟩:=p;obtain⟨cR,bI,fr,adH⟩:=q;simp only[r',Prod.mk.injEq] at h;obtain⟨_,rfl,rfl,⟨rfl,rfl,_⟩,_⟩:=h;rfl
theorem EE{p:aL}(hk:ch p=true)(hl:(bA p).length<=4000):f67 ((bA p,()),())=some (r' p):=by
 have hb:=Jo hk hl;obtain⟨h1,h2,h3,aC,_,ca⟩:=mQ hk;obtain⟨q1,q2,dF,mK⟩:=yA p;have d:decide (((bA p).length:Int)>4000)=false:=decide_eq_false (by omega)
 have c1:=m' 10 (bA p) (by unfold ar;omega)
 have a1:g_ 10 (bA p)=dt p:=by unfold g_;rw[akp]
 rw[a1] at c1;have c1:f114 ((bA p,(([10]:B),())),())=_:=c1;have c2:=m' 10 (dt p) (by unfold ar;omega)
 have a2:g_ 10 (dt p)=iQ p:=by unfold g_;rw[QT hk]
 have a3:g' 10 (dt p)=ea p:=by unfold g';rw[QT hk]
 rw[a2,a3] at c2;have c2:f114 ((dt p,(([10]:B),())),())=_:=c2;have bL:(ea p).length<=(dt p).length:=by rw[vk];simp
 have c3:=PL (ea p) (by omega)
 rw[EV hk] at c3;have iN:(((([iB,p.name,p.aX]:List B).length:Nat):Int) !=3)=false:=rfl;have ei:aO [iB,p.name,p.aX] (1:Int)=some p.name:=rfl;have fR:aO [iB,p.name,p.aX] (2:Int)=some p.aX:=rfl;have de:=ad5 p.bi (da p.bx) h3 (by omega) (by omega)
 have de:f117 ((iQ p,()),())=_:=de;have gN:=aef p.bx ca (by omega) hb.2.2.2
 have c6:=yH (((p.name,(p.aX,(p.bi,(p.bx,())))),()),()) hb;have c6:f55 (((p.name,(p.aX,(p.bi,(p.bx,())))),()),())=some ((ch p,()),()):=c6;have qa:=yr p hb;rw[hk] at c6 qa;simp only[f67,d,cond_false,c1,c2,c3,iN,ei,fR,de,gN,Option.bind_some,Bool.not_true,Bool.not_false,qk,cond_true,c6,qa,beq_self_eq_true]
theorem aed(s:B)(hs:ar s.length):f67 ((s,()),())=some NJ\/∃p:aL,f67 ((s,()),())=some (r' p)/\ch p=true/\bA p=s/\s.length<=4000:=by
 by_cases hl:s.length<=4000
 ·have d:decide ((s.length:Int)>4000)=false:=decide_eq_false (by omega)
  have aAC:∀t:B,(g' 10 t).length<=t.length:=fun t=>by
   unfold g';cases h:dv 10 t with
   |none=>exact Nat.le_refl _
   |some q=>obtain⟨x,y⟩:=q;have:=(jh h).1;show x.length<=_;rw[this];simp
  have adx:∀t:B,(g_ 10 t).length<=t.length:=fun t=>by
   unfold g_;cases h:dv 10 t with
   |none=>show 0<=_;omega
   |some q=>obtain⟨x,y⟩:=q;have:=(jh h).1;show y.length<=_;rw[this];simp;omega
  have c1:=m' 10 s hs;have c1:f114 ((s,(([10]:B),())),())=_:=c1;have dQ:=adx s;generalize g_ 10 s=b at c1 dQ;have c2:=m' 10 b (by unfold ar;omega)
  have c2:f114 ((b,(([10]:B),())),())=_:=c2;have fy:=adx b;have uH:=aAC b;generalize g_ 10 b=r at c2 fy;generalize g' 10 b=aa at c2 uH;have c3:=PL aa (by omega)
  have m3:∀w,w∈bF 32 aa->w.length<=aa.length:=fun w hw=>by
   rw[<-yt 32 aa.length aa (Nat.le_refl _)] at hw;exact qf 32 _ aa w hw
  generalize bF 32 aa=ws at c3 m3;cases iN:(((ws.length:Nat):Int) !=3) with
  |true=>
   refine .inl ?_
   simp only[f67,d,cond_false,c1,c2,c3,iN,cond_true,Option.bind_some]
  |false=>
   obtain⟨U,bN,vs,rfl⟩:∃U bN vs,ws=[U,bN,vs]:=by
    have:ws.length=3:=by simp at iN;omega
    match ws,this with
    |[a,b,c],_=>exact⟨a,b,c,rfl⟩
   have ei:aO [U,bN,vs] (1:Int)=some bN:=rfl;have fR:aO [U,bN,vs] (2:Int)=some vs:=rfl;have aE:=m3 bN (by simp)
   have aF:=m3 vs (by simp)
   obtain⟨eH,ok,ns,de,cB,fS,ix⟩:=ad6 r (by omega)
   obtain⟨LZ,t,gN,p4,x6⟩:=aeg eH (by omega)
   cases ok with
   |false=>
    refine .inl ?_
    simp only[f67,d,cond_false,c1,c2,c3,iN,ei,fR,de,cond_true,Option.bind_some,Bool.not_false]
   |true=>
    cases LZ with
    |false=>
     refine .inl ?_
     simp only[f67,d,cond_false,c1,c2,c3,iN,ei,fR,de,gN,cond_true,Option.bind_some,Bool.not_false,Bool.not_true,qk]
    |true=>
     have hb:jB ⟨bN,vs,ns,t⟩:=⟨by show bN.length<=2097152;omega,by show vs.length<=2097152;omega,⟨by show ns.length<=2097152;omega,fun n hn=>by have:=ix n hn;exact⟨by show n.name.length<=2097152;omega,by show n.aX.length<=2097152;omega⟩⟩,⟨by show t.length<=2097152;omega,fun e he=>by have:=x6 e he;exact⟨by show e.path.length<=2097152;omega,by show e.text.length<=2097152;omega⟩⟩⟩
     have c6:=yH (((bN,(vs,(ns,(t,())))),()),()) hb;have c6:f55 (((bN,(vs,(ns,(t,())))),()),())=some ((ch ⟨bN,vs,ns,t⟩,()),()):=c6;have qa:=yr ⟨bN,vs,ns,t⟩ hb;have qa:f36 (((bN,(vs,(ns,(t,())))),()),())=_:=qa;cases hk:ch ⟨bN,vs,ns,t⟩ with
     |false=>
      rw[hk] at c6;refine .inl ?_
      simp only[f67,d,cond_false,c1,c2,c3,iN,ei,fR,de,gN,cond_true,Option.bind_some,Bool.not_false,Bool.not_true,qk,c6]
     |true=>
      rw[hk] at c6 qa;cases he:bA ⟨bN,vs,ns,t⟩==s with
      |false=>
       refine .inl ?_
       simp only[f67,d,cond_false,c1,c2,c3,iN,ei,fR,de,gN,cond_true,Option.bind_some,Bool.not_false,Bool.not_true,qk,c6,qa,he]
      |true=>
       refine .inr ⟨⟨bN,vs,ns,t⟩,?_,hk,eq_of_beq he,hl⟩;simp only[f67,d,cond_false,c1,c2,c3,iN,ei,fR,de,gN,cond_true,Option.bind_some,Bool.not_false,Bool.not_true,qk,c6,qa,he]
 ·have d:decide ((s.length:Int)>4000)=true:=decide_eq_true (by omega)
  refine .inl ?_
  simp only[f67,d,cond_true]
def abK(s:B)(p:aL):Prop:=ch p=true/\bA p=s/\s.length<=4000
def aAN(D:Option aL):xh.J:=match D with|some p=>r' p|none=>NJ
theorem agn(s:B)(hs:ar s.length):∃D:Option aL,f67 ((s,()),())=some (aAN D)/\qQ D (abK s):=by
 rcases aed s hs with h|⟨p,h,h1,h2,h3⟩
 ·refine⟨none,h,fun p=>⟨fun hp=>(by cases hp),fun⟨q1,q2,dF⟩=>?_⟩⟩
  subst q2;have:=EE q1 dF;rw[h] at this;simp only[Option.some.injEq,Prod.mk.injEq] at this;exact absurd this.1.2.1 (by decide)
 ·refine⟨some p,h,fun q=>⟨fun hp=>?_,fun⟨q1,q2,dF⟩=>?_⟩⟩
  ·cases hp;exact⟨h1,h2,h3⟩
  ·subst q2;have:=EE q1 dF;rw[h] at this;rw[apc (Option.some.inj this)]
noncomputable abbrev aze:a_:=[(114,w0),(115,Di)]
theorem ac7:aQ O (aW ad aze):=aV ⟨CU,Kj,⟨⟩⟩
abbrev Ui:Shape:=⟨[aj 2,aj 3,ao 4,aj 6,ao 7,ag 8,ao 9],[],35⟩
abbrev T8:List aP:=[(.norm,⟨[aj 2,aj 3,ao 4,aj 6,ag 8,ao 28],[],35⟩)]
noncomputable def vW(y:Ui.J):Option (aB T8):=
 bif(!(!y.1.2.2.2.2.1)) then
 some ((y.1.1,y.1.2.1,y.1.2.2.1,y.1.2.2.2.1,y.1.2.2.2.2.2.1,(!y.1.2.2.2.2.2.2.1),()),())
else
 some ((y.1.1,y.1.2.1,y.1.2.2.1,y.1.2.2.2.1,y.1.2.2.2.2.2.1,true,()),())
theorem aol:aS O (am (codeOf Tryz.f66) 1 60) (aU Ui T8 vW):=cd ac7 (by kernel_rfl) ae fun y=>by kernel_rfl
abbrev i66:Shape:=⟨[aj 0],[],35⟩
abbrev aa7:Shape:=⟨[aj 2,aj 3,ao 4],[],35⟩
noncomputable def f66(a:i66.J):Option aa7.J:=
(f114 ((a.1.1,([10]:B),()),())).bind fun b=>
(f115 ((b.1.1,(b.1.2.1.length:Int),()),())).bind fun c=>
(vW ((([]:B),([]:B),false,b.1.2.1,b.1.2.2.1,c.1.1,c.1.2.1,()),())).bind fun d=>
 bif d.1.2.2.2.2.2.1 then
 some ((([]:B),([]:B),false,()),())
else
(bm d.1.2.2.2.1 (0:Int) d.1.2.2.2.2.1).bind fun e=>
(bm d.1.2.2.2.1 d.1.2.2.2.2.1 (d.1.2.2.2.1.length:Int)).bind fun f=>
 some ((e,f,true,()),())
noncomputable def M6:aD:=aG ad Tryz.f66 i66 aa7 [] f66
theorem aaC:aA O 66 M6:=aK ac7 Tryz.func66 (by kernel_rfl) (a7 aol ae) (fun y=>by kernel_rfl) fun a=>by kernel_rfl
theorem alr(t:B)(b:UInt8):db (t++[b])=eg (db t) b:=by unfold db;rw[List.foldl_append];rfl
theorem alp:∀{s:B},s.all cO=true->s≠[]->ii s=false->s.length≠1->1<=db s:=by
 intro s aa hn hl h1;have key:∀(s:B) (n:Int),s.all cO=true->1<=n->1<=s.foldl eg n:=by
  intro s;induction s with
  |nil=>intro n _ h;exact h
  |cons b s ih=>
   intro n aa hn;simp only[List.all_cons,Bool.and_eq_true] at aa;have hb:=iO aa.1;refine ih _ aa.2 ?_
   unfold eg;omega
 match s,aa,hn,hl,h1 with
 |[],_,hn,_,_=>exact absurd rfl hn
 |[b],_,_,_,h1=>exact absurd rfl h1
 |b::c::r,aa,_,hl,_=>
  have hl:((b.toNat:Int)==48)=false:=hl;have hb:=aa;rw[List.all_cons,Bool.and_eq_true] at hb;have eW:=iO hb.1;have hne:(b.toNat:Int)≠48:=by simpa using hl
  show 1<=(c::r).foldl eg (eg 0 b);exact key _ _ hb.2 (by unfold eg;omega)
theorem ahc:∀(k:Nat) (s:B),s.length=k->s.all cO=true->s≠[]->ii s=false->∃n:Nat,db s=(n:Int)/\Lib.decDigits n=s:=by
 intro k;induction k with
 |zero=>intro s h _ hn _;exact absurd (List.length_eq_zero_iff.1 h) hn
 |succ k ih=>
  intro s h aa hn hl;obtain⟨t,b,rfl⟩:∃t b,s=t++[b]:=⟨s.dropLast,s.getLast hn,(List.dropLast_concat_getLast hn).symm⟩;have hk:t.length=k:=by simpa using h
  rw[List.all_append,Bool.and_eq_true] at aa;have hb1:cO b=true:=by have:=aa.2;simpa using this
  have eW:=iO hb1;cases t with
  |nil=>
   refine⟨b.toNat-48,?_,?_⟩
   ·show eg 0 b=_;unfold eg;omega
   ·rw[Lib.decDigits,dif_pos (by omega)]
    show [_]=[b];congr 1
    apply UInt8.toNat_inj.1;rw[UInt8.toNat_ofNat'];omega
  |cons c r=>
   have hlt:ii (c::r)=false:=by
    cases r with
    |nil=>rfl
    |cons d r=>exact hl
   obtain⟨n,h1,h2⟩:=ih (c::r) hk aa.1 (by simp) hlt
   have hp:1<=n:=by
    cases r with
    |nil=>
     have pW:((c.toNat:Int)==48)=false:=hl;have pW:(c.toNat:Int)≠48:=by simpa using pW
     have hc:=iO (by have:=aa.1;simpa using this:cO c=true)
     have:eg 0 c=(n:Int):=h1;unfold eg at this;omega
    |cons d r=>
     have:=alp aa.1 (by simp) hlt (by simp)
     omega
   refine⟨n*10+(b.toNat-48),?_,?_⟩
   ·rw[alr,h1];unfold eg;omega
   ·rw[Lib.decDigits,dif_neg (by omega),show(n*10+(b.toNat-48))/10=n by omega,h2,show(n*10+(b.toNat-48))%10=b.toNat-48 by omega]
    congr 2
    apply UInt8.toNat_inj.1;rw[UInt8.toNat_ofNat'];omega
theorem Qt{m:Int}{s:B}(h:fi m s=true):∃n:Nat,db s=(n:Int)/\s=Lib.itoa (n:Int)/\(n:Int)<=m:=by
 have h0:=h;unfold fi at h;simp only[Bool.and_eq_true,decide_eq_true_eq,Bool.not_eq_true'] at h;obtain⟨⟨⟨⟨h1,h2⟩,h3⟩,_⟩,bk⟩:=h;obtain⟨n,e1,e2⟩:=ahc s.length s rfl h1 (by simpa using h2) h3
 exact⟨n,e1,by rw[qt,e2],by omega⟩
def lu(s:B):Option (B×B):=match dv 10 s with
 |some (bX,r)=>bif fi (r.length:Int) bX then some (r.take (db bX).toNat,r.drop (db bX).toNat) else none
 |none=>none
theorem Ot(s:B)(hs:ar s.length):f66 ((s,()),())=some ((((lu s).getD ([],[])).1,(((lu s).getD ([],[])).2,((lu s).isSome,()))),()):=by
 have c1:=m' 10 s hs;have c1:f114 ((s,(([10]:B),())),())=_:=c1;cases az:dv 10 s with
 |none=>
  have hz:lu s=none:=by unfold lu;rw[az]
  have dY:g' 10 s=s:=by unfold g';rw[az]
  have n1:=yG s ((g_ 10 s).length:Int) hs;rw[az,dY] at c1;simp only[f66,c1,Option.bind_some,n1,vW,Option.isSome_none,Bool.not_false,Bool.not_true,cond_false,cond_true,hz];rfl
 |some q=>
  obtain⟨bX,r⟩:=q;have hl:=(jh az).1;have hl:s.length=bX.length+1+r.length:=by rw[hl];simp;omega
  have dY:g' 10 s=bX:=by unfold g';rw[az]
  have hB:g_ 10 s=r:=by unfold g_;rw[az]
  rw[az,dY,hB] at c1;have n1:=yG bX (r.length:Int) (by unfold ar at hs ⊢;omega)
  have hz:lu s=bif fi (r.length:Int) bX then some (r.take (db bX).toNat,r.drop (db bX).toNat) else none:=by unfold lu;rw[az]
  cases hg:fi (r.length:Int) bX with
  |false=>
   rw[hg] at hz n1;simp only[f66,c1,Option.bind_some,n1,vW,Option.isSome_some,Bool.not_false,Bool.not_true,cond_false,cond_true,hz];rfl
  |true=>
   rw[hg] at hz n1;obtain⟨n,h1,_,h3⟩:=Qt hg;rw[h1] at hz n1;have s1:bm r 0 (n:Int)=some (r.take n):=gj (by omega)
   have s2:bm r (n:Int) ((r.length:Nat):Int)=some (r.drop n):=fc (by omega)
   simp only[f66,c1,Option.bind_some,n1,vW,Option.isSome_some,Bool.not_false,Bool.not_true,cond_false,cond_true,s1,s2,hz];rfl
theorem Pf{s x y:B}(h:lu s=some (x,y)):s=dD x++y/\y.length<s.length:=by
 unfold lu at h;cases az:dv 10 s with
 |none=>rw[az] at h;cases h
 |some q=>
  obtain⟨bX,r⟩:=q;rw[az] at h;have hs:=(jh az).1;have h:(bif fi (r.length:Int) bX then some (r.take (db bX).toNat,r.drop (db bX).toNat) else none)=some (x,y):=h
  cases hg:fi (r.length:Int) bX with
  |false=>rw[hg] at h;cases h
  |true=>
   rw[hg] at h;obtain⟨n,h1,h2,h3⟩:=Qt hg;simp only[cond_true,Option.some.injEq,Prod.mk.injEq,h1,Int.toNat_natCast] at h;obtain⟨rfl,rfl⟩:=h;have hlen:(r.take n).length=n:=by simp;omega
   refine⟨?_,?_⟩
   ·unfold dD;rw[hlen,<-h2,hs];simp
   ·rw[hs];simp;omega
theorem ahX(x y:B)(h':x.length<1000000000):lu (dD x++y)=some (x,y):=by
 unfold lu;rw[P9];obtain⟨g1,g2⟩:=GA (n:=x.length) (m:=((x++y).length:Int)) (by simp;omega) h'
 show(bif fi ((x++y).length:Int) (Lib.itoa (x.length:Int)) then _ else _)=_
 rw[g1,g2];simp
noncomputable abbrev azu:a_:=[(43,Eb),(66,M6),(67,acG)]
theorem Ng:aQ O (aW ad azu):=aV ⟨LL,aaC,avX,⟨⟩⟩
abbrev Rw:Shape:=⟨[ay 2 2 0,ba 4 3000256,aj 6,aj 7,ao 8],[bp 5000128 .pack 2 0,ax 2 [.own 5000128],a' 3000256 .pack 4 0],48⟩
abbrev Rd:List aP:=[(.norm,⟨[ay 2 2 0,ba 4 3000256,aj 6,aj 7,ao 26],[bp 5000128 .pack 2 0,ax 2 [.own 5000128],a' 3000256 .pack 4 0],48⟩)]
noncomputable def qw(y:Rw.J):Option (aB Rd):=
 bif(!(!y.1.2.2.2.2.1)) then
 some (((),(),y.1.2.2.1,y.1.2.2.2.1,((y.2.2.2.1.length:Int)==(5:Int)),()),y.2.1,((),()),y.2.2.2.1,())
else
 some (((),(),y.1.2.2.1,y.1.2.2.2.1,true,()),y.2.1,((),()),y.2.2.2.1,())
theorem ajX:aS O (am (c4 (am (codeOf Tryz.f35) 1 60)) 120 3860) (aU Rw Rd qw):=cd Ng (by kernel_rfl) ae fun y=>by kernel_rfl
abbrev BN:Shape:=⟨[ay 2 2 0,ba 4 3000256,aj 5],[bp 5000128 .pack 2 0,ax 2 [.own 5000128],a' 3000256 .pack 4 0],48⟩
abbrev Jl:List aP:=[(.ret,⟨[ay 2 2 0,ao 3],[bp 5000128 .pack 2 0,ax 2 [.own 5000128]],48⟩),(.exit 0,⟨[ay 2 2 0,ba 4 3000256],[bp 5000128 .pack 2 0,ax 2 [.own 5000128],a' 3000256 .pack 4 0],48⟩)]
noncomputable def pj(y:BN.J):bG BN Jl:=
 bif(!(y.1.2.2.1==([]:B))) then
(f66 ((y.1.2.2.1,()),())).bind fun a=>
(qw (((),(),a.1.1,a.1.2.1,a.1.2.2.1,()),y.2.1,((),()),y.2.2.2.1,())).bind fun b=>
 bif b.1.2.2.2.2.1 then
 some (.inr (.inl (((),false,()),([]:List aL),((),()),())))
else
(f67 ((b.1.2.2.1,()),())).bind fun c=>
 bif(!c.1.2.1) then
 some (.inr (.inl (((),false,()),([]:List aL),((),()),())))
else
(b9 80 b.2.2.2.1 ([(aL.mk c.2.2.2.1.1 c.2.2.2.1.2.1 c.2.1 c.2.2.1)]:List aL)).bind fun d=>
 some (.inl (((),(),b.1.2.2.2.1,()),b.2.1,((),()),d,()))
else
 some (.inr (.inr (((),(),()),y.2.1,((),()),y.2.2.2.1,())))
noncomputable def vT:BN.J->Option (aB Jl):=br pj
theorem aou:aS O (am (codeOf Tryz.f35) 1 60) (aU BN Jl vT):=bH Ng (by kernel_rfl) (a7 ajX ae) fun y=>by kernel_rfl
abbrev i35:Shape:=⟨[aj 0],[],48⟩
abbrev xj:Shape:=⟨[ay 2 2 0,ao 3],[bp 5000128 .pack 2 0,ax 2 [.own 5000128]],48⟩
noncomputable def f35(a:i35.J):Option xj.J:=
(vT (((),(),a.1.1,()),([]:List aL),((),()),([]:List aL),())).bind fun b=>
(match b with
|.inl c=>
 some (((),c.1.2.1,()),c.2.1,((),()),())
|.inr d=>
(f43 (((d.2.2.2.1,()),()),())).bind fun e=>
 bif(!e.1.1) then
 some (((),false,()),([]:List aL),((),()),())
else
 some (((),true,()),d.2.2.2.1,((),()),()))
noncomputable def Ee:aD:=aG ad Tryz.f35 i35 xj [] f35
theorem LN:aA O 35 Ee:=aK Ng Tryz.func35 (by kernel_rfl) (a7 aou ae) (fun y=>by kernel_rfl) fun a=>by kernel_rfl
noncomputable abbrev azI:a_:=[(35,Ee)]
theorem az6:aQ O (aW ad azI):=aV ⟨LN,⟨⟩⟩
abbrev i14:Shape:=⟨[b_ 0 [ah,ah]],[],17⟩
abbrev DE:Shape:=⟨[ao 2],[],17⟩
noncomputable def f14(a:i14.J):Option DE.J:=
(f35 ((a.1.1.1,()),())).bind fun b=>
 bif b.1.2.1 then
 some (((a.1.1.2.1==([]:B)),()),())
else
 some ((false,()),())
noncomputable def uy:aD:=aG ad Tryz.f14 i14 DE [] f14
theorem LP:aA O 14 uy:=aK az6 Tryz.func14 (by kernel_rfl) ae (fun y=>by kernel_rfl) fun a=>by kernel_rfl
abbrev oo(ps:List aL):Prop:=∀p,p∈ps->ch p=true/\(bA p).length<=4000
def tY(s:B)(ps:List aL):Prop:=fe ps=true/\dd ps=s/\oo ps
abbrev NI(ps:List aL):xj.J:=(((),(true,())),(ps,(((),()),())))
abbrev M0:xj.J:=(((),(false,())),(([]:List aL),(((),()),())))
def D6(D:Option (List aL)):xj.J:=match D with|some ps=>NI ps|none=>M0
theorem vC{ps:List aL}(h:oo ps)(hl:ps.length<=6):gp ps/\lX ps:=by
 refine⟨⟨by show ps.length<=2097152;omega,fun p hp=>Jo (h p hp).1 (h p hp).2⟩,fun p hp=>?_⟩
 obtain⟨hk,az⟩:=h p hp;obtain⟨q1,q2,dF,mK⟩:=yA p;refine⟨by omega,fun n hn=>?_⟩
 have h:=EN cz hn;have iJ:(cz n).length=(cK n).length+6:=by unfold cz;simp
 have hp:n.name.length+n.aX.length<=(cK n).length:=by unfold cK;simp
 omega
theorem FE(p:aL)(ps:List aL):dd (p::ps)=dD (bA p)++dd ps:=by unfold dd;rw[List.flatMap_cons]
theorem an6:∀(m:Nat) (s:B) (ps:List aL),s.length<=m->m<=1000000000->ps.length<=5->
  vT (((),((),(s,()))),(([]:List aL),(((),()),(ps,()))))=some (.inl M0)\/
  ∃bY:List aL,vT (((),((),(s,()))),(([]:List aL),(((),()),(ps,()))))=some (.inr (((),((),())),(([]:List aL),(((),()),(ps++bY,())))))/\dd bY=s/\oo bY/\(ps++bY).length<=5:=by
 intro m;induction m with
 |zero=>
  intro s ps hs _ hl;have:s=[]:=List.length_eq_zero_iff.1 (by omega)
  subst this;exact .inr ⟨[],by rw[List.append_nil];exact cp rfl,rfl,fun p hp=>(by cases hp),by simpa using hl⟩
 |succ m ih=>
  intro s ps hs hm hl;cases s with
  |nil=>exact .inr ⟨[],by rw[List.append_nil];exact cp rfl,rfl,fun p hp=>(by cases hp),by simpa using hl⟩
  |cons b iw=>
   have hne:((b::iw)==([]:B))=false:=rfl;generalize eI:b::iw=s at hs hne;have z:=Ot s (by unfold ar;omega)
   cases hz:lu s with
   |none=>
    rw[hz] at z;refine .inl (cp ?_);simp only[pj,hne,Bool.not_false,cond_true,z,Option.bind_some,Option.isSome_none,qw,Bool.not_true,cond_false]
   |some q=>
    obtain⟨x,y⟩:=q;obtain⟨aE,aF⟩:=Pf hz;rw[hz] at z;have z:f66 ((s,()),())=some ((x,(y,(true,()))),()):=z;by_cases bk:ps.length=5
    ·refine .inl (cp ?_);have d:(((ps.length:Nat):Int)==5)=true:=by rw[beq_iff_eq];omega
     simp only[pj,hne,Bool.not_false,cond_true,z,Option.bind_some,qw,Bool.not_true,cond_false,d]
    ·have d:(((ps.length:Nat):Int)==5)=false:=by rw[beq_eq_false_iff_ne];omega
     have hx:x.length<=s.length:=by rw[aE];unfold dD;simp;omega
     obtain⟨D,g1,g2⟩:=agn x (by unfold ar;omega)
     cases D with
     |none=>
      have g1:f67 ((x,()),())=some NJ:=g1;refine .inl (cp ?_);simp only[pj,hne,Bool.not_false,cond_true,z,Option.bind_some,qw,Bool.not_true,cond_false,d,g1]
     |some p=>
      have g1:f67 ((x,()),())=some (r' p):=g1;obtain⟨h9,iM,p3⟩:=(g2 p).1 rfl;have fo:b9 80 ps ([(aL.mk p.name p.aX p.bi p.bx)]:List aL)=some (ps++[p]):=dh (by decide) (by unfold ar;simp;omega)
      have st:pj (((),((),(s,()))),(([]:List aL),(((),()),(ps,()))))=some (.inl (((),((),(y,()))),(([]:List aL),(((),()),(ps++[p],()))))):=by
       simp only[pj,hne,Bool.not_false,cond_true,z,Option.bind_some,qw,Bool.not_true,cond_false,d,g1,fo]
      rcases ih y (ps++[p]) (by omega) (by omega) (by simp;omega) with e|⟨bY,e1,e2,bC,dy⟩
      ·exact .inl ((dN st).trans e)
      ·rw[List.append_assoc] at e1 dy;refine .inr ⟨p::bY,(dN st).trans e1,by rw[FE,e2,iM,<-aE],fun r hr=>?_,dy⟩
       rcases List.mem_cons.1 hr with rfl|hr
       ·exact⟨h9,by rw[iM];exact p3⟩
       ·exact bC r hr
theorem an5:∀(bY ps:List aL),oo bY->ps.length+bY.length<=5->
  vT (((),((),(dd bY,()))),(([]:List aL),(((),()),(ps,()))))=some (.inr (((),((),())),(([]:List aL),(((),()),(ps++bY,()))))):=by
 intro bY;induction bY with
 |nil=>intro ps _ _;rw[List.append_nil];exact cp rfl
 |cons p bY ih=>
  intro ps h hl;obtain⟨h1,h2⟩:=h p List.mem_cons_self;have hz:=ahX (bA p) (dd bY) (by omega)
  rw[<-FE] at hz;have hlen:(dd (p::bY)).length<=30000:=by
   have:=nY (f:=fun p=>dD (bA p)) (xs:=p::bY) (n:=5000) fun q az=>by
    have:=(h q az).2;have:=lm (bA q).length (by omega)
    show(dD (bA q)).length<=5000;unfold dD;simp;omega
   have e:(dd (p::bY)).length=((p::bY).flatMap fun p=>dD (bA p)).length:=rfl
   simp only[List.length_cons] at hl this;have ca:(bY.length+1)*5000<=6*5000:=Nat.mul_le_mul_right _ (by omega)
   omega
  have z:=Ot (dd (p::bY)) (by unfold ar;omega)
  rw[hz] at z;have z:f66 ((dd (p::bY),()),())=some ((bA p,(dd bY,(true,()))),()):=z;have g1:=EE h1 h2;have hne:(dd (p::bY)==([]:B))=false:=by
   have:=(Pf hz).2;cases hx:dd (p::bY) with
   |nil=>rw[hx] at this;simp at this
   |cons b r=>rfl
  have d:(((ps.length:Nat):Int)==5)=false:=by rw[beq_eq_false_iff_ne];simp at hl;omega
  have fo:b9 80 ps ([(aL.mk p.name p.aX p.bi p.bx)]:List aL)=some (ps++[p]):=dh (by decide) (by unfold ar;simp;simp at hl;omega)
  have st:pj (((),((),(dd (p::bY),()))),(([]:List aL),(((),()),(ps,()))))=some (.inl (((),((),(dd bY,()))),(([]:List aL),(((),()),(ps++[p],()))))):=by
   simp only[pj,hne,Bool.not_false,cond_true,z,Option.bind_some,qw,Bool.not_true,cond_false,d,g1,fo]
  have:=ih (ps++[p]) (fun r hr=>h r (List.mem_cons_of_mem _ hr)) (by simp at hl ⊢;omega)
  rw[List.append_assoc] at this;exact(dN st).trans this
theorem O5(s:B)(hs:s.length<=1000000000):∃D:Option (List aL),f35 ((s,()),())=some (D6 D)/\qQ D (tY s):=by
 have put:∀ps:List aL,tY s ps->f35 ((s,()),())=some (NI ps):=by
  intro ps ⟨h1,h2,h3⟩;subst h2;have hl:ps.length<=5:=(mO h1).2;obtain⟨hb,hv⟩:=vC h3 (by omega)
  have g:=an5 ps [] h3 (by simpa using hl)
  have e:=Fl (((ps,()),()),()) hb hv;have e:f43 (((ps,()),()),())=some ((fe ps,()),()):=e;rw[h1] at e;simp only[f35,g,List.nil_append,Option.bind_some,e,Bool.not_true,cond_false]
 have any:f35 ((s,()),())=some M0\/∃ps,f35 ((s,()),())=some (NI ps)/\tY s ps:=by
  rcases an6 s.length s [] (Nat.le_refl _) hs (by decide) with g|⟨bY,g,h1,h2,h3⟩
  ·refine .inl ?_
   simp only[f35,g,Option.bind_some]
  ·rw[List.nil_append] at g h3;obtain⟨hb,hv⟩:=vC h2 (by omega)
   have e:=Fl (((bY,()),()),()) hb hv;have e:f43 (((bY,()),()),())=some ((fe bY,()),()):=e;cases hr:fe bY with
   |false=>
    rw[hr] at e;refine .inl ?_
    simp only[f35,g,Option.bind_some,e,Bool.not_false,cond_true]
   |true=>
    rw[hr] at e;refine .inr ⟨bY,?_,hr,h1,h2⟩;simp only[f35,g,Option.bind_some,e,Bool.not_true,cond_false]
 rcases any with h|⟨ps,h,hr⟩
 ·refine⟨none,h,fun p=>⟨fun hp=>(by cases hp),fun hp=>?_⟩⟩
  have:=put p hp;rw[h] at this;simp only[Option.some.injEq,Prod.mk.injEq] at this;exact absurd this.1.2.1 (by decide)
 ·refine⟨some ps,h,fun q=>⟨fun hp=>by cases hp;exact hr,fun hp=>?_⟩⟩
  have:=put q hp;rw[h] at this;simp only[Option.some.injEq,Prod.mk.injEq] at this;rw[this.2.1]
theorem P6{c:UInt8}{k:Nat}{s:B}(h:b' c s):splitN c k s=[s]:=by
 cases k with
 |zero=>rfl
 |succ k=>unfold splitN;rw[anj h]
theorem O'{c:UInt8}{k:Nat}{a b:B}(h:b' c a):splitN c (k+1) (a++c::b)=a::splitN c k b:=by
 show(match dv c (a++c::b) with|some (x,y)=>x::splitN c k y|none=>[a++c::b])=_
 rw[sD h]
theorem alz(pre mid rest:B):bm (pre++mid++rest) (pre.length:Int) ((pre.length+mid.length:Nat):Int)=some mid:=by
 rw[qs (by omega) (by simp),show pre.length+mid.length=(pre++mid).length by simp,List.take_left' rfl,List.drop_left' rfl]
theorem amT(c:UInt8)(s:B)(hs:s.length<=1000000000):∀(rest mid pre:B) (parts:List B) (k kg:Nat),s=pre++mid++rest->b' c mid->parts.length+k=kg->parts.length<=pre.length->
  ∃(Jp:List B) (Kr t:B),vz ((s,((c.toNat:Int),((kg:Int),((),((pre.length:Int),(((pre.length+mid.length:Nat):Int),())))))),(parts,()))=some ((s,((),((Kr.length:Int),()))),(Jp,()))/\s=Kr++t/\Jp++[t]=parts++splitN c k (mid++rest)/\Jp.length<=Kr.length:=by
 intro rest;induction rest with
 |nil=>
  intro mid pre parts k kg h1 h2 h3 aC;rw[List.append_nil] at h1;refine⟨parts,pre,mid,cp ?_,h1,by rw[List.append_nil,P6 h2],aC⟩
  have d:decide (((pre.length+mid.length:Nat):Int)<(s.length:Int))=false:=decide_eq_false (by rw[h1];simp)
  simp only[o',d,cond_false]
 |cons b r ih=>
  intro mid pre parts k kg h1 h2 h3 aC;have hl:s.length=pre.length+mid.length+1+r.length:=by rw[h1];simp;omega
  have d:decide (((pre.length+mid.length:Nat):Int)<(s.length:Int))=true:=decide_eq_true (by omega)
  cases k with
  |zero=>
   refine⟨parts,pre,mid++b::r,cp ?_,by rw[h1,List.append_assoc],rfl,aC⟩
   have d2:decide (((parts.length:Nat):Int)<(kg:Int))=false:=decide_eq_false (by omega)
   simp only[o',d,d2,cond_true,cond_false]
  |succ k=>
   have d2:decide (((parts.length:Nat):Int)<(kg:Int))=true:=decide_eq_true (by omega)
   have hx:aO s ((pre.length+mid.length:Nat):Int)=some b:=by
    rw[b4,h1,List.getElem?_append_right (by simp)]
    simp
   have hw:IntKind.i64.wrap (((pre.length+mid.length:Nat):Int)+1)=((pre.length+mid.length+1:Nat):Int):=bU (by unfold ar;omega)
   by_cases hb:b=c
   ·subst hb;have az:(((b.toNat:Nat):Int)==(b.toNat:Int))=true:=by simp
    have hm:bm s (pre.length:Int) ((pre.length+mid.length:Nat):Int)=some mid:=by rw[h1];exact alz pre mid _
    have ha:b9 16 parts ([mid]:List B)=some (parts++[mid]):=dh (by decide) (by unfold ar;simp;omega)
    have hp:(pre++mid++[b]).length=pre.length+mid.length+1:=by simp;omega
    obtain⟨hF,fx,t,g1,g2,g3,g4⟩:=ih [] (pre++mid++[b]) (parts++[mid]) k kg (by rw[h1];simp) (b'.nil b) (by simp;omega) (by rw[hp];simp;omega)
    rw[hp] at g1;refine⟨hF,fx,t,(dN ?_).trans g1,g2,?_,g4⟩
    ·simp only[o',d,d2,cond_true,hx,Option.bind_some,az,hm,ha,hw];rfl
    ·rw[g3,O' h2];simp
   ·have az:(((b.toNat:Nat):Int)==(c.toNat:Int))=false:=by
     rw[beq_eq_false_iff_ne];intro h;exact hb (UInt8.toNat_inj.1 (by omega))
    obtain⟨hF,fx,t,g1,g2,g3,g4⟩:=ih (mid++[b]) pre parts (k+1) kg (by rw[h1];simp) (h2.cY fun x hx=>by rw[List.mem_singleton.1 hx];exact hb) h3 aC
    have hp:pre.length+(mid++[b]).length=pre.length+mid.length+1:=by simp;omega
    rw[hp] at g1;refine⟨hF,fx,t,(dN ?_).trans g1,g2,?_,g4⟩
    ·simp only[o',d,d2,cond_true,hx,Option.bind_some,az,cond_false,hw]
    ·rw[g3];simp
theorem l2(c:UInt8)(s:B)(hs:s.length<=1000000000)(kg:Nat):f73 ((s,((c.toNat:Int),((kg:Int),()))),())=some (((),()),(splitN c kg s,())):=by
 obtain⟨hF,fx,t,g1,g2,g3,g4⟩:=amT c s hs s [] [] [] kg kg rfl (b'.nil c) (by simp) (Nat.le_refl _)
 have g1:vz ((s,((c.toNat:Int),((kg:Int),((),((0:Int),((0:Int),())))))),(([]:List B),()))=_:=g1;have az:fx.length<=s.length:=by rw[g2];simp
 have e1:bm s (fx.length:Int) ((s.length:Nat):Int)=some t:=by rw[fc az,g2];simp
 have e2:b9 16 hF ([t]:List B)=some (hF++[t]):=dh (by decide) (by unfold ar;simp;omega)
 simp only[f73,g1,Option.bind_some,e1,e2,g3];rfl
noncomputable abbrev auj:a_:=[(192,Lh),(218,Lc),(225,La)]
theorem Do:aQ O (aW ad auj):=aV ⟨W2,z218,WX,⟨⟩⟩
abbrev Aj:Shape:=⟨[aj 0,ay 2 2 0,ao 3,ag 4],[ax 2 [ah,aZ,ah]],75⟩
abbrev HE:List aP:=[(.exit 0,⟨[aj 0,ay 2 2 0,ao 3,ag 4],[ax 2 [ah,aZ,ah]],75⟩)]
noncomputable def qI(y:Aj.J):bG Aj HE:=
 bif(decide (y.1.2.2.2.1<(y.1.1.length:Int))) then
(aO y.1.1 y.1.2.2.2.1).bind fun a=>
 bif((a.toNat:Int) !=(61:Int)) then
(aO y.1.1 y.1.2.2.2.1).bind fun b=>
 bif((b.toNat:Int) !=(62:Int)) then
(aO y.1.1 y.1.2.2.2.1).bind fun c=>
 bif((c.toNat:Int) !=(60:Int)) then
 some (.inl ((y.1.1,(),y.1.2.2.1,(IntKind.i64.wrap (y.1.2.2.2.1+(1:Int))),()),(y.2.1.1,y.2.1.2.1,y.2.1.2.2.1,()),()))
else
 some (.inr ((y.1.1,(),y.1.2.2.1,y.1.2.2.2.1,()),(y.2.1.1,y.2.1.2.1,y.2.1.2.2.1,()),()))
else
 some (.inr ((y.1.1,(),y.1.2.2.1,y.1.2.2.2.1,()),(y.2.1.1,y.2.1.2.1,y.2.1.2.2.1,()),()))
else
 some (.inr ((y.1.1,(),y.1.2.2.1,y.1.2.2.2.1,()),(y.2.1.1,y.2.1.2.1,y.2.1.2.2.1,()),()))
else
 some (.inr ((y.1.1,(),y.1.2.2.1,y.1.2.2.2.1,()),(y.2.1.1,y.2.1.2.1,y.2.1.2.2.1,()),()))
noncomputable def AM:Aj.J->Option (aB HE):=br qI
theorem amd:aS O (am (codeOf Tryz.f179) 1 28) (aU Aj HE AM):=bH Do (by kernel_rfl) ae fun y=>by kernel_rfl
abbrev Pd:Shape:=⟨[aj 0,ay 2 2 0,ao 3,ay 5 5 0,aj 6,ag 7,aj 8],[ax 2 [ah,aZ,ah],ax 5 [ah,aZ,ah]],75⟩
abbrev O8:List aP:=[(.norm,⟨[aj 0,ay 2 2 0,ao 3,ay 5 5 0,aj 6,ag 7,aj 8,ao 58],[ax 2 [ah,aZ,ah],ax 5 [ah,aZ,ah]],75⟩)]
noncomputable def E_(y:Pd.J):Option (aB O8):=
 bif(decide ((y.1.2.2.2.2.1.length:Int)>=(y.1.2.2.2.2.2.2.1.length:Int))) then
(bm y.1.2.2.2.2.1 (0:Int) (y.1.2.2.2.2.2.2.1.length:Int)).bind fun a=>
 some ((y.1.1,(),y.1.2.2.1,(),y.1.2.2.2.2.1,y.1.2.2.2.2.2.1,y.1.2.2.2.2.2.2.1,(a==y.1.2.2.2.2.2.2.1),()),(y.2.1.1,y.2.1.2.1,y.2.1.2.2.1,()),(y.2.2.1.1,y.2.2.1.2.1,y.2.2.1.2.2.1,()),())
else
 some ((y.1.1,(),y.1.2.2.1,(),y.1.2.2.2.2.1,y.1.2.2.2.2.2.1,y.1.2.2.2.2.2.2.1,false,()),(y.2.1.1,y.2.1.2.1,y.2.1.2.2.1,()),(y.2.2.1.1,y.2.2.1.2.1,y.2.2.1.2.2.1,()),())
theorem agH:aS O (am (c4 (am (codeOf Tryz.f179) 1 506)) 1012 32402) (aU Pd O8 E_):=cd Do (by kernel_rfl) ae fun y=>by kernel_rfl
abbrev zq:Shape:=⟨[aj 0,ay 2 2 0,ao 3,ay 5 5 0,aj 6,ag 7],[ax 2 [ah,aZ,ah],ax 5 [ah,aZ,ah]],75⟩
abbrev Gm:List aP:=[(.exit 2,⟨[aj 0,ay 2 2 0,ao 3,ay 5 5 0],[ax 2 [ah,aZ,ah],ax 5 [ah,aZ,ah]],75⟩)]
noncomputable def vj(y:zq.J):bG zq Gm:=
 bif(decide (y.1.2.2.2.2.2.1<=(3:Int))) then
(f225 ((y.1.2.2.2.2.2.1,()),())).bind fun a=>
(E_ ((y.1.1,(),y.1.2.2.1,(),y.1.2.2.2.2.1,y.1.2.2.2.2.2.1,a.1.1,()),(y.2.1.1,y.2.1.2.1,y.2.1.2.2.1,()),(y.2.2.1.1,y.2.2.1.2.1,y.2.2.1.2.2.1,()),())).bind fun b=>
 bif b.1.2.2.2.2.2.2.2.1 then
(bm b.1.2.2.2.2.1 (b.1.2.2.2.2.2.2.1.length:Int) (b.1.2.2.2.2.1.length:Int)).bind fun c=>
 some (.inl ((b.1.1,(),b.1.2.2.1,(),b.1.2.2.2.2.1,(IntKind.i64.wrap (b.1.2.2.2.2.2.1+(1:Int))),()),(b.2.1.1,b.2.1.2.1,b.2.1.2.2.1,()),(b.2.2.1.1,b.1.2.2.2.2.2.1,c,()),()))
else
 some (.inl ((b.1.1,(),b.1.2.2.1,(),b.1.2.2.2.2.1,(IntKind.i64.wrap (b.1.2.2.2.2.2.1+(1:Int))),()),(b.2.1.1,b.2.1.2.1,b.2.1.2.2.1,()),(b.2.2.1.1,b.2.2.1.2.1,b.2.2.1.2.2.1,()),()))
else
 some (.inr ((y.1.1,(),y.1.2.2.1,(),()),(y.2.1.1,y.2.1.2.1,y.2.1.2.2.1,()),(y.2.2.1.1,y.2.2.1.2.1,y.2.2.1.2.2.1,()),()))
noncomputable def GP:zq.J->Option (aB Gm):=br vj
theorem akf:aS O (am (codeOf Tryz.f179) 1 506) (aU zq Gm GP):=bH Do (by kernel_rfl) (a7 agH ae) fun y=>by kernel_rfl
abbrev i179:Shape:=⟨[aj 0],[],75⟩
abbrev Yc:Shape:=⟨[ay 2 2 0,ao 3],[ax 2 [ah,aZ,ah]],75⟩
noncomputable def f179(a:i179.J):Option Yc.J:=
(AM ((a.1.1,(),false,(0:Int),()),(([]:B),(0:Int),([]:B),()),())).bind fun b=>
(bm b.1.1 (0:Int) b.1.2.2.2.1).bind fun c=>
(bm b.1.1 b.1.2.2.2.1 (b.1.1.length:Int)).bind fun d=>
(GP ((b.1.1,(),b.1.2.2.1,(),d,(1:Int),()),(b.2.1.1,b.2.1.2.1,b.2.1.2.2.1,()),(c,(0:Int),([]:B),()),())).bind fun e=>
(f192 (((e.2.2.1.1,e.2.2.1.2.1,e.2.2.1.2.2.1,()),()),())).bind fun f=>
 bif f.1.1 then
(f218 (((e.2.2.1.1,e.2.2.1.2.1,e.2.2.1.2.2.1,()),()),())).bind fun g=>
 some (((),(g.1.1==e.1.1),()),(e.2.2.1.1,e.2.2.1.2.1,e.2.2.1.2.2.1,()),())
else
 some (((),false,()),(e.2.2.1.1,e.2.2.1.2.1,e.2.2.1.2.2.1,()),())
noncomputable def _n:aD:=aG ad Tryz.f179 i179 Yc [] f179
theorem arS:aA O 179 _n:=aK Do Tryz.func179 (by kernel_rfl) (a7 amd (a7 akf ae)) (fun y=>by kernel_rfl) fun a=>by kernel_rfl
theorem amV(s:B)(hs:s.length<=1000000000):∀(t a:B),s=a++t->(∀y,y∈a->eS.contains y=false)->
  ∃cR bo:B,AM ((s,((),(false,((a.length:Int),())))),((([]:B),((0:Int),(([]:B),()))),()))=some ((s,((),(false,((cR.length:Int),())))),((([]:B),((0:Int),(([]:B),()))),()))/\s=cR++bo/\(∀y,y∈cR->eS.contains y=false)/\(bo=[]\/∃x r,bo=x::r/\eS.contains x=true):=by
 intro t;induction t with
 |nil=>
  intro a h1 h2;refine⟨a,[],cp ?_,h1,h2,.inl rfl⟩;have d:decide (((a.length:Nat):Int)<(s.length:Int))=false:=decide_eq_false (by rw[h1];simp)
  simp only[qI,d,cond_false]
 |cons b r ih=>
  intro a h1 h2;have hl:s.length=a.length+1+r.length:=by rw[h1];simp;omega
  have d:decide (((a.length:Nat):Int)<(s.length:Int))=true:=decide_eq_true (by omega)
  have hx:aO s (a.length:Int)=some b:=by
   rw[b4,h1,List.getElem?_append_right (by omega)];simp
  have hw:IntKind.i64.wrap (((a.length:Nat):Int)+1)=((a.length+1:Nat):Int):=bU (by unfold ar;omega)
  cases hb:eS.contains b with
  |true=>
   refine⟨a,b::r,cp ?_,h1,h2,.inr ⟨b,r,rfl,hb⟩⟩;have hc:b=61\/b=60\/b=62:=by simpa[eS] using hb
   rcases hc with rfl|rfl|rfl
   ·have t1:((((61:UInt8).toNat:Nat):Int) !=61)=false:=rfl;simp only[qI,d,cond_true,hx,Option.bind_some,t1,cond_false]
   ·have t1:((((60:UInt8).toNat:Nat):Int) !=61)=true:=rfl;have t2:((((60:UInt8).toNat:Nat):Int) !=62)=true:=rfl;have t3:((((60:UInt8).toNat:Nat):Int) !=60)=false:=rfl;simp only[qI,d,cond_true,hx,Option.bind_some,t1,t2,t3,cond_false]
   ·have t1:((((62:UInt8).toNat:Nat):Int) !=61)=true:=rfl;have t2:((((62:UInt8).toNat:Nat):Int) !=62)=false:=rfl;simp only[qI,d,cond_true,hx,Option.bind_some,t1,t2,cond_false]
  |false=>
   have hc:¬(b=61\/b=60\/b=62):=by
    intro h;rcases h with rfl|rfl|rfl<;>revert hb<;>decide
   have ne:∀k:UInt8,b≠k->(((b.toNat:Nat):Int) !=(k.toNat:Int))=true:=fun k hk=>by
    rw[bne_iff_ne];intro h;exact hk (UInt8.toNat_inj.1 (by omega))
   have t1:(((b.toNat:Nat):Int) !=61)=true:=ne 61 fun h=>hc (.inl h)
   have t2:(((b.toNat:Nat):Int) !=62)=true:=ne 62 fun h=>hc (.inr (.inr h))
   have t3:(((b.toNat:Nat):Int) !=60)=true:=ne 60 fun h=>hc (.inr (.inl h))
   have st:qI ((s,((),(false,((a.length:Int),())))),((([]:B),((0:Int),(([]:B),()))),()))=some (.inl ((s,((),(false,(((a.length+1:Nat):Int),())))),((([]:B),((0:Int),(([]:B),()))),()))):=by
    simp only[qI,d,cond_true,hx,Option.bind_some,t1,t2,t3,hw]
   obtain⟨cR,bo,g1,g2⟩:=ih (a++[b]) (by rw[h1];simp) (fun y hy=>by
    rcases List.mem_append.1 hy with hy|hy
    ·exact h2 y hy
    ·rw[List.mem_singleton.1 hy];exact hb)
   rw[show(a++[b]).length=a.length+1 by simp] at g1
   exact⟨cR,bo,(dN st).trans g1,g2⟩
def i'(t:B)(k:Int)(q:Int×B):Int×B:=match dX (dO k) t with|some r=>(k,r)|none=>q
theorem Ic(s t bN v:B)(k q:Int)(h:k<=3)(h0:0<=k):
  vj ((s,((),(false,((),(t,(k,())))))),((([]:B),((0:Int),(([]:B),()))),((bN,(q,(v,()))),())))=some (.inl ((s,((),(false,((),(t,(k+1,())))))),((([]:B),((0:Int),(([]:B),()))),((bN,((i' t k (q,v)).1,((i' t k (q,v)).2,()))),())))):=by
 have d:decide (k<=3)=true:=decide_eq_true h;have e:=Q2 k;have hw:IntKind.i64.wrap (k+1)=k+1:=cS (by omega) (by omega)
 unfold i' dX;have aa:decide (((t.length:Nat):Int)>=(((dO k).length:Nat):Int))=decide ((dO k).length<=t.length):=by congr 1;apply propext;omega
 simp only[vj,d,cond_true,e,Option.bind_some,E_,aa];cases hc:decide ((dO k).length<=t.length) with
 |false=>simp only[cond_false,Option.bind_some,Bool.false_and,hw]
 |true=>
  have hle:=of_decide_eq_true hc;have e1:bm t 0 (((dO k).length:Nat):Int)=some (t.take (dO k).length):=gj hle;have e2:bm t (((dO k).length:Nat):Int) ((t.length:Nat):Int)=some (t.drop (dO k).length):=fc hle;simp only[cond_true,e1,Option.bind_some,Bool.true_and];cases t.take (dO k).length==dO k with
  |false=>simp only[cond_false,hw]
  |true=>simp only[cond_true,e2,Option.bind_some,hw]
theorem ahR:∀{a cR t bo:B},a++t=cR++bo->(∀y,y∈a->eS.contains y=false)->(∀y,y∈cR->eS.contains y=false)->(t=[]\/∃x r,t=x::r/\eS.contains x=true)->(bo=[]\/∃x r,bo=x::r/\eS.contains x=true)->a=cR/\t=bo:=by
 intro a;induction a with
 |nil=>
  intro cR t bo h h1 h2 h3 aC;cases cR with
  |nil=>exact⟨rfl,h⟩
  |cons b r=>
   have hb:=h2 b List.mem_cons_self;rcases h3 with rfl|⟨x,eH,rfl,hx⟩
   ·cases h
   ·have:x=b:=by simp at h;exact h.1
    rw[this,hb] at hx;cases hx
 |cons b a ih=>
  intro cR t bo h h1 h2 h3 aC;cases cR with
  |nil=>
   have hb:=h1 b List.mem_cons_self;rcases aC with rfl|⟨x,eH,rfl,hx⟩
   ·cases h
   ·have:b=x:=by simp at h;exact h.1
    rw[<-this,hb] at hx;cases hx
  |cons bI cR=>
   simp only[List.cons_append,List.cons.injEq] at h;obtain⟨rfl,h⟩:=h;obtain⟨e1,e2⟩:=ih h (fun y hy=>h1 y (List.mem_cons_of_mem _ hy)) (fun y hy=>h2 y (List.mem_cons_of_mem _ hy)) h3 aC
   exact⟨by rw[e1],e2⟩
def fm(t:B):Int×B:=i' t 3 (i' t 2 (i' t 1 (0,[])))
theorem Ie(t:B)(k:Int)(q:Int×B)(h:q.2.length<=t.length):(i' t k q).2.length<=t.length:=by
 unfold i';split
 ·rename_i r hr;exact QN hr
 ·exact h
theorem Th(t:B):(fm t).2.length<=t.length:=Ie t 3 _ (Ie t 2 _ (Ie t 1 _ (Nat.zero_le _)))
theorem Sf(s:B)(hs:s.length<=2000000):∃(a t:B) (ok:Bool),f179 ((s,()),())=some (((),(ok,())),((a,((fm t).1,((fm t).2,()))),()))/\s=a++t/\(∀y,y∈a->eS.contains y=false)/\(t=[]\/∃x r,t=x::r/\eS.contains x=true):=by
 obtain⟨a,t,g1,h1,h2,h3⟩:=amV s (by omega) s [] rfl (fun y hy=>by cases hy)
 have g1:AM ((s,((),(false,((0:Int),())))),((([]:B),((0:Int),(([]:B),()))),()))=_:=g1;have hl:s.length=a.length+t.length:=by rw[h1];simp
 have e1:bm s 0 ((a.length:Nat):Int)=some a:=by rw[gj (by omega),h1];simp
 have e2:bm s ((a.length:Nat):Int) ((s.length:Nat):Int)=some t:=by rw[fc (by omega),h1];simp
 have s1:=Ic s t a [] 1 0 (by decide) (by decide)
 have s2:=Ic s t a (i' t 1 (0,[])).2 2 (i' t 1 (0,[])).1 (by decide) (by decide)
 have hD:=Ic s t a (i' t 2 (i' t 1 (0,[]))).2 3 (i' t 2 (i' t 1 (0,[]))).1 (by decide) (by decide)
 have adt:vj ((s,((),(false,((),(t,((3:Int)+1,())))))),((([]:B),((0:Int),(([]:B),()))),((a,((fm t).1,((fm t).2,()))),())))=some (.inr ((s,((),(false,((),())))),((([]:B),((0:Int),(([]:B),()))),((a,((fm t).1,((fm t).2,()))),())))):=by
  have d:decide ((3:Int)+1<=3)=false:=by decide
  simp only[vj,d,cond_false]
 have g2:GP ((s,((),(false,((),(t,((1:Int),())))))),((([]:B),((0:Int),(([]:B),()))),((a,((0:Int),(([]:B),()))),())))=some ((s,((),(false,((),())))),((([]:B),((0:Int),(([]:B),()))),((a,((fm t).1,((fm t).2,()))),()))):=
  (dN s1).trans ((dN s2).trans ((dN hD).trans (cp adt)))
 have hv:=Th t;have bC:=Q6 (((a,((fm t).1,((fm t).2,()))),()),()) (by show a.length<=2097152;omega) (by show(fm t).2.length<=2097152;omega)
 have dy:=Se ⟨a,(fm t).1,(fm t).2⟩ ⟨by show a.length<=2097152;omega,by show(fm t).2.length<=2097152;omega⟩
 refine⟨a,t,dC ⟨a,(fm t).1,(fm t).2⟩&&cK ⟨a,(fm t).1,(fm t).2⟩==s,?_,h1,h2,h3⟩;simp only[f179,g1,Option.bind_some,e1,e2,g2,bC];cases dC ⟨a,(fm t).1,(fm t).2⟩ with
 |false=>rfl
 |true=>
  simp only[cond_true,dy,Option.bind_some];rfl
theorem afp(s:B)(hs:s.length<=2000000):∃(n:bv) (ok:Bool),f179 ((s,()),())=some (((),(ok,())),((n.name,(n.kind,(n.aX,()))),()))/\n.name.length<=s.length/\n.aX.length<=s.length:=by
 obtain⟨a,t,ok,h,h1,_⟩:=Sf s hs;have hv:=Th t;have hl:s.length=a.length+t.length:=by rw[h1];simp
 exact⟨⟨a,(fm t).1,(fm t).2⟩,ok,h,by show a.length<=_;omega,by show(fm t).2.length<=_;omega⟩
theorem afo{n:bv}(h:dC n=true)(hs:(cK n).length<=2000000):∃ok:Bool,f179 ((cK n,()),())=some (((),(ok,())),((n.name,(n.kind,(n.aX,()))),())):=by
 obtain⟨a,t,ok,e,h1,h2,h3⟩:=Sf (cK n) hs;obtain⟨aE,aF⟩:=yl h;have hno:=Rq (EL aE);obtain⟨bN,k,v⟩:=n;have key:∀bo:B,cK ⟨bN,k,v⟩=bN++bo->(bo=[]\/∃x r,bo=x::r/\eS.contains x=true)->fm bo=(k,v)->∃ok:Bool,f179 ((cK ⟨bN,k,v⟩,()),())=some (((),(ok,())),((bN,(k,(v,()))),())):=by
  intro bo q1 q2 dF;obtain⟨e1,e2⟩:=ahR (h1.symm.trans q1) h2 hno h3 q2;subst e1 e2;rw[dF] at e;exact⟨ok,e⟩
 rcases aF with⟨hk,hv⟩|⟨hk,hv⟩
 ·have hk:k=0:=hk;have hv:v=[]:=hv;subst hk hv;exact key [] (by unfold cK dO;simp) (.inl rfl) (by decide)
 ·rcases hk with hk|hk|hk
  ·have hk:k=1:=hk;subst hk;refine key (61::v) (by unfold cK dO;simp) (.inr ⟨61,v,rfl,by decide⟩) ?_
   have d1:dX (dO 1) (61::v)=some v:=va [61] v;have d2:dX (dO 2) (61::v)=none:=by unfold dX;cases v<;>simp[dO]
   have d3:dX (dO 3) (61::v)=none:=by unfold dX;simp[dO]
   simp only[fm,i',d1,d2,d3]
  ·have hk:k=2:=hk;subst hk;refine key (62::61::v) (by unfold cK dO;simp) (.inr ⟨62,61::v,rfl,by decide⟩) ?_
   have d1:dX (dO 1) (62::61::v)=none:=by unfold dX;simp[dO]
   have d2:dX (dO 2) (62::61::v)=some v:=va [62,61] v;have d3:dX (dO 3) (62::61::v)=none:=by unfold dX;simp[dO]
   simp only[fm,i',d1,d2,d3]
  ·have hk:k=3:=hk;subst hk;refine key (60::v) (by unfold cK dO;simp) (.inr ⟨60,v,rfl,by decide⟩) ?_
   have d1:dX (dO 1) (60::v)=none:=by unfold dX;simp[dO]
   have d2:dX (dO 2) (60::v)=none:=by unfold dX;cases v<;>simp[dO]
   have d3:dX (dO 3) (60::v)=some v:=va [60] v;simp only[fm,i',d1,d2,d3]
noncomputable abbrev aui:a_:=[(73,p0),(74,D9),(75,oL)]
theorem w5:aQ O (aW ad aui):=aV ⟨ri,LI,z75,⟨⟩⟩
abbrev RF:Shape:=⟨[ay 2 2 0,aj 3,ao 4,ba 5 3000320,ba 6 3000384],[ax 2 [ah,aZ,aZ,ah],a' 3000320 .str 5 0,a' 3000384 .str 6 0],110⟩
abbrev Rm:List aP:=[(.norm,⟨[ay 2 2 0,aj 3,ao 4,ba 5 3000320,ba 6 3000384,ao 18],[ax 2 [ah,aZ,aZ,ah],a' 3000320 .str 5 0,a' 3000384 .str 6 0],110⟩)]
noncomputable def mU(y:RF.J):Option (aB Rm):=
(be y.2.2.2.1.length (0:Int)).bind fun a=>
(y.2.2.2.1[a]?).bind fun b=>
 bif(b==([100,105,114]:B)) then
 some (((),y.1.2.1,y.1.2.2.1,(),(),((y.2.2.2.1.length:Int)==(3:Int)),()),(y.2.1.1,y.2.1.2.1,y.2.1.2.2.1,y.2.1.2.2.2.1,()),y.2.2.1,y.2.2.2.1,())
else
 some (((),y.1.2.1,y.1.2.2.1,(),(),false,()),(y.2.1.1,y.2.1.2.1,y.2.1.2.2.1,y.2.1.2.2.2.1,()),y.2.2.1,y.2.2.2.1,())
theorem ake:aS O (am (codeOf Tryz.f180) 1 248) (aU RF Rm mU):=cd w5 (by kernel_rfl) ae fun y=>by kernel_rfl
abbrev RE:Shape:=⟨[ay 2 2 0,aj 3,ao 4,ba 5 3000320,ba 6 3000384],[ax 2 [ah,aZ,aZ,ah],a' 3000320 .str 5 0,a' 3000384 .str 6 0],110⟩
abbrev Rl:List aP:=[(.norm,⟨[ay 2 2 0,aj 3,ao 4,ba 5 3000320,ba 6 3000384,ao 39],[ax 2 [ah,aZ,aZ,ah],a' 3000320 .str 5 0,a' 3000384 .str 6 0],110⟩)]
noncomputable def nX(y:RE.J):Option (aB Rl):=
(be y.2.2.2.1.length (0:Int)).bind fun a=>
(y.2.2.2.1[a]?).bind fun b=>
 bif(b==([108,105,110,107]:B)) then
 some (((),y.1.2.1,y.1.2.2.1,(),(),((y.2.2.2.1.length:Int)==(3:Int)),()),(y.2.1.1,y.2.1.2.1,y.2.1.2.2.1,y.2.1.2.2.2.1,()),y.2.2.1,y.2.2.2.1,())
else
 some (((),y.1.2.1,y.1.2.2.1,(),(),false,()),(y.2.1.1,y.2.1.2.1,y.2.1.2.2.1,y.2.1.2.2.2.1,()),y.2.2.1,y.2.2.2.1,())
theorem akd:aS O (am (codeOf Tryz.f180) 1 998) (aU RE Rl nX):=cd w5 (by kernel_rfl) ae fun y=>by kernel_rfl
abbrev Qd:Shape:=⟨[ay 2 2 0,aj 3,ao 4,ba 5 3000320,ba 6 3000384],[ax 2 [ah,aZ,aZ,ah],a' 3000320 .str 5 0,a' 3000384 .str 6 0],110⟩
abbrev PU:List aP:=[(.norm,⟨[ay 2 2 0,aj 3,ao 4,ba 5 3000320,ba 6 3000384,ao 59],[ax 2 [ah,aZ,aZ,ah],a' 3000320 .str 5 0,a' 3000384 .str 6 0],110⟩)]
noncomputable def o4(y:Qd.J):Option (aB PU):=
(be y.2.2.2.1.length (0:Int)).bind fun a=>
(y.2.2.2.1[a]?).bind fun b=>
 bif(b==([102,105,108,101]:B)) then
 some (((),y.1.2.1,y.1.2.2.1,(),(),((y.2.2.2.1.length:Int)==(4:Int)),()),(y.2.1.1,y.2.1.2.1,y.2.1.2.2.1,y.2.1.2.2.2.1,()),y.2.2.1,y.2.2.2.1,())
else
 some (((),y.1.2.1,y.1.2.2.1,(),(),false,()),(y.2.1.1,y.2.1.2.1,y.2.1.2.2.1,y.2.1.2.2.2.1,()),y.2.2.1,y.2.2.2.1,())
theorem aib:aS O (am (codeOf Tryz.f180) 1 3998) (aU Qd PU o4):=cd w5 (by kernel_rfl) ae fun y=>by kernel_rfl
abbrev Pc:Shape:=⟨[ay 2 2 0,aj 3,ao 4,ba 5 3000320,ba 6 3000384,ag 7],[ax 2 [ah,aZ,aZ,ah],a' 3000320 .str 5 0,a' 3000384 .str 6 0],110⟩
abbrev O7:List aP:=[(.norm,⟨[ay 2 2 0,aj 3,ao 4,ba 5 3000320,ba 6 3000384,ag 7,ao 88],[ax 2 [ah,aZ,aZ,ah],a' 3000320 .str 5 0,a' 3000384 .str 6 0],110⟩)]
noncomputable def uY(y:Pc.J):Option (aB O7):=
(be y.2.2.1.length (1:Int)).bind fun a=>
(y.2.2.1[a]?).bind fun b=>
(f75 ((y.1.2.2.2.2.2.1,(0:Int),(IntKind.i64.wrap ((b.length:Int)-(1:Int))),()),())).bind fun c=>
 bif(!(!c.1.1)) then
(be y.2.2.1.length (1:Int)).bind fun d=>
(y.2.2.1[d]?).bind fun e=>
(aO e y.1.2.2.2.2.2.1).bind fun f=>
 some (((),y.1.2.1,y.1.2.2.1,(),(),y.1.2.2.2.2.2.1,((f.toNat:Int) !=(10:Int)),()),(y.2.1.1,y.2.1.2.1,y.2.1.2.2.1,y.2.1.2.2.2.1,()),y.2.2.1,y.2.2.2.1,())
else
 some (((),y.1.2.1,y.1.2.2.1,(),(),y.1.2.2.2.2.2.1,true,()),(y.2.1.1,y.2.1.2.1,y.2.1.2.2.1,y.2.1.2.2.2.1,()),y.2.2.1,y.2.2.2.1,())
theorem agG:aS O (am (codeOf Tryz.f180) 1 63988) (aU Pc O7 uY):=cd w5 (by kernel_rfl) ae fun y=>by kernel_rfl
abbrev i180:Shape:=⟨[aj 0],[],110⟩
abbrev wI:Shape:=⟨[ay 2 2 0,aj 3,ao 4],[ax 2 [ah,aZ,aZ,ah]],110⟩
noncomputable def f180(a:i180.J):Option wI.J:=
(f73 ((a.1.1,(10:Int),(1:Int),()),())).bind fun b=>
 bif(decide ((b.2.1.length:Int)<(2:Int))) then
 some (((),([]:B),false,()),(([]:B),(0:Int),(0:Int),([]:B),()),())
else
(be b.2.1.length (0:Int)).bind fun c=>
(b.2.1[c]?).bind fun d=>
(f73 ((d,(32:Int),(4:Int),()),())).bind fun e=>
(mU (((),([]:B),false,(),(),()),(([]:B),(0:Int),(0:Int),([]:B),()),b.2.1,e.2.1,())).bind fun f=>
 bif f.1.2.2.2.2.2.1 then
(be f.2.2.2.1.length (2:Int)).bind fun g=>
(f.2.2.2.1[g]?).bind fun h=>
(be f.2.2.2.1.length (1:Int)).bind fun i=>
(f.2.2.2.1[i]?).bind fun j=>
(f74 ((j,()),())).bind fun k=>
(be f.2.2.1.length (1:Int)).bind fun l=>
(f.2.2.1[l]?).bind fun m=>
 some (((),m,true,()),(h,(1:Int),k.1.1,([]:B),()),())
else
(nX (((),f.1.2.1,f.1.2.2.1,(),(),()),(f.2.1.1,f.2.1.2.1,f.2.1.2.2.1,f.2.1.2.2.2.1,()),f.2.2.1,f.2.2.2.1,())).bind fun n=>
 bif n.1.2.2.2.2.2.1 then
(be n.2.2.2.1.length (1:Int)).bind fun D=>
(n.2.2.2.1[D]?).bind fun p=>
(be n.2.2.2.1.length (2:Int)).bind fun q=>
(n.2.2.2.1[q]?).bind fun r=>
(be n.2.2.1.length (1:Int)).bind fun s=>
(n.2.2.1[s]?).bind fun t=>
 some (((),t,true,()),(p,(3:Int),(0:Int),r,()),())
else
(o4 (((),n.1.2.1,n.1.2.2.1,(),(),()),(n.2.1.1,n.2.1.2.1,n.2.1.2.2.1,n.2.1.2.2.2.1,()),n.2.2.1,n.2.2.2.1,())).bind fun u=>
 bif u.1.2.2.2.2.2.1 then
(be u.2.2.2.1.length (3:Int)).bind fun v=>
(u.2.2.2.1[v]?).bind fun w=>
(f74 ((w,()),())).bind fun x=>
(uY (((),u.1.2.1,u.1.2.2.1,(),(),x.1.1,()),(u.2.1.1,u.2.1.2.1,u.2.1.2.2.1,u.2.1.2.2.2.1,()),u.2.2.1,u.2.2.2.1,())).bind fun y=>
 bif y.1.2.2.2.2.2.2.1 then
 some (((),([]:B),false,()),(([]:B),(0:Int),(0:Int),([]:B),()),())
else
(be y.2.2.2.1.length (2:Int)).bind fun z=>
(y.2.2.2.1[z]?).bind fun A=>
(be y.2.2.2.1.length (1:Int)).bind fun bq=>
(y.2.2.2.1[bq]?).bind fun C=>
(f74 ((C,()),())).bind fun bh=>
(be y.2.2.1.length (1:Int)).bind fun E=>
(y.2.2.1[E]?).bind fun aT=>
(bm aT (0:Int) y.1.2.2.2.2.2.1).bind fun G=>
(be y.2.2.1.length (1:Int)).bind fun H=>
(y.2.2.1[H]?).bind fun I=>
(bm I (IntKind.i64.wrap (y.1.2.2.2.2.2.1+(1:Int))) (I.length:Int)).bind fun e6=>
 some (((),e6,true,()),(A,(2:Int),bh.1.1,G,()),())
else
 some (((),([]:B),false,()),(([]:B),(0:Int),(0:Int),([]:B),()),())
noncomputable def _m:aD:=aG ad Tryz.f180 i180 wI [] f180
theorem arR:aA O 180 _m:=aK w5 Tryz.func180 (by kernel_rfl) (a7 ake (a7 akd (a7 aib (a7 agG ae)))) (fun y=>by kernel_rfl) fun a=>by kernel_rfl
def gI(s:B):Int:=bif s.all cO&&decide (s.length<=6)&&!(s==[])&&!ii s then db s else-1
theorem qm(s:B)(hs:ar s.length):f74 ((s,()),())=some ((gI s,()),()):=Hg ((s,()),()) hs
theorem FG(n:Nat)(h:n<1000000):gI (Lib.itoa (n:Int))=(n:Int):=by
 have h1:=qm (Lib.itoa (n:Int)) (by rw[qt];have:=G9 5 n (by omega);unfold ar;omega)
 rw[ag0 n h] at h1;simp only[Option.some.injEq,Prod.mk.injEq] at h1;exact h1.1.1.symm
def rk(aY w2 cf r:B):Option (aw×B):=bif within (gI cf) 0 ((r.length:Int)-1) then(match r.drop (gI cf).toNat with|10::eH=>some (⟨w2,2,gI aY,r.take (gI cf).toNat⟩,eH)|_=>none) else none
def f'(ws:List B)(r:B):Option (aw×B):=match ws with
 |[U,aY,w2]=>bif U==hU then some (⟨w2,1,gI aY,[]⟩,r) else bif U==hS then some (⟨aY,3,0,w2⟩,r) else none
 |[U,aY,w2,cf]=>bif U==ik then rk aY w2 cf r else none
 |_=>none
def nu(s:B):Option (aw×B):=match dv 10 s with
 |some (bX,r)=>f' (splitN 32 4 bX) r
 |none=>none
abbrev uK(D:Bool)(e:aw)(r:B):wI.J:=(((),(r,(D,()))),((e.path,(e.kind,(e.mode,(e.text,())))),()))
theorem L8{n:Nat}(h:0<n):be n (0:Int)=some 0:=ft h
theorem L7{n:Nat}(h:1<n):be n (1:Int)=some 1:=ft h
theorem abM{n:Nat}(h:2<n):be n (2:Int)=some 2:=ft h
theorem abL{n:Nat}(h:3<n):be n (3:Int)=some 3:=ft h
theorem Q4(s:B)(hs:s.length<=2000000):∃(r:B) (e:aw),f180 ((s,()),())=some (uK (nu s).isSome e r)/\∀q,nu s=some q->q=(e,r):=by
 have c1:=l2 10 s (by omega) 1
 have c1:f73 ((s,((10:Int),((1:Int),()))),())=_:=c1;have zero:∀{D:Option (aw×B)} {x:Option wI.J},D=none->x=some (uK false ⟨[],0,0,[]⟩ [])->∃(r:B) (e:aw),x=some (uK D.isSome e r)/\∀q,D=some q->q=(e,r):=by
  intro D x aM hx;subst aM;exact⟨[],⟨[],0,0,[]⟩,hx,fun q az=>by cases az⟩
 have one:∀{D:Option (aw×B)} {x:Option wI.J} {e:aw} {r:B},D=some (e,r)->x=some (uK true e r)->∃(r:B) (e:aw),x=some (uK D.isSome e r)/\∀q,D=some q->q=(e,r):=by
  intro D x e r aM hx;subst aM;exact⟨r,e,hx,fun q az=>by cases az;rfl⟩
 cases az:dv 10 s with
 |none=>
  have eL:splitN 10 1 s=[s]:=by unfold splitN;rw[az]
  rw[eL] at c1;refine zero (by unfold nu;rw[az]) ?_
  have d:decide ((([s]:List B).length:Int)<2)=true:=rfl;simp only[f180,c1,Option.bind_some,d,cond_true]
 |some q=>
  obtain⟨bX,rest⟩:=q;have hl:=(jh az).1;have hl:s.length=bX.length+1+rest.length:=by rw[hl];simp;omega
  have eL:splitN 10 1 s=[bX,rest]:=by unfold splitN;rw[az];rfl
  rw[eL] at c1;have c2:=l2 32 bX (by omega) 4
  have c2:f73 ((bX,((32:Int),((4:Int),()))),())=_:=c2;have hr:nu s=f' (splitN 32 4 bX) rest:=by unfold nu;rw[az]
  have hm:=qf 32 4 bX;have hp:=O_ 32 4 bX;rw[hr];generalize splitN 32 4 bX=ws at c2 hm hp;have d:decide ((([bX,rest]:List B).length:Int)<2)=false:=rfl;have i0:be ([bX,rest]:List B).length (0:Int)=some 0:=rfl;have i1:be ([bX,rest]:List B).length (1:Int)=some 1:=rfl;have fa:([bX,rest]:List B)[0]? =some bX:=rfl;have ei:([bX,rest]:List B)[1]? =some rest:=rfl;have wS:∀w:B,(w==([100,105,114]:B))=(w==hU):=fun _=>rfl
  have CF:∀w:B,(w==([108,105,110,107]:B))=(w==hS):=fun _=>rfl
  have tr:∀w:B,(w==([102,105,108,101]:B))=(w==ik):=fun _=>rfl
  have other:∀(U:B) (more:List B),ws=U::more->((ws.length:Int)==3)=false->((ws.length:Int)==4)=false->f' ws rest=none->∃(r:B) (e:aw),f180 ((s,()),())=some (uK (f' ws rest).isSome e r)/\∀q,f' ws rest=some q->q=(e,r):=by
   intro U more hw h3 aC h;refine zero h ?_
   have hI:be ws.length (0:Int)=some 0:=L8 (by omega)
   have dE:ws[0]? =some U:=by rw[hw];rfl
   simp only[f180,c1,Option.bind_some,d,cond_false,i0,fa,c2,mU,hI,dE,h3];cases U==([100,105,114]:B)<;>simp only[cond_true,cond_false,Option.bind_some,nX,hI,dE,h3]<;>cases U==([108,105,110,107]:B)<;>simp only[cond_true,cond_false,Option.bind_some,o4,hI,dE,aC]<;>cases U==([102,105,108,101]:B)<;>rfl
  match ws,other,c2,hm,hp with
  |[],other,c2,hm,hp=>exact absurd hp (by decide)
  |[U],other,c2,hm,hp=>exact other U [] rfl rfl rfl rfl
  |[U,aY],other,c2,hm,hp=>exact other U [aY] rfl rfl rfl rfl
  |U::aY::w2::cf::k1::more,other,c2,hm,hp=>exact other U _ rfl (by rw[beq_eq_false_iff_ne];simp;omega) (by rw[beq_eq_false_iff_ne];simp;omega) rfl
  |[U,aY,w2],_,c2,hm,hp=>
   have hI:be ([U,aY,w2]:List B).length (0:Int)=some 0:=rfl;have lV:be ([U,aY,w2]:List B).length (1:Int)=some 1:=rfl;have p_:be ([U,aY,w2]:List B).length (2:Int)=some 2:=rfl;have dE:([U,aY,w2]:List B)[0]? =some U:=rfl;have cH:([U,aY,w2]:List B)[1]? =some aY:=rfl;have dm:([U,aY,w2]:List B)[2]? =some w2:=rfl;have h3:((([U,aY,w2]:List B).length:Int)==3)=true:=rfl;have aC:((([U,aY,w2]:List B).length:Int)==4)=false:=rfl;have m1:=hm aY (by simp)
   have n1:=qm aY (by unfold ar;omega)
   cases e4:U==hU with
   |true=>
    refine one (show f' [U,aY,w2] rest=some (⟨w2,1,gI aY,[]⟩,rest) by unfold f';simp only[e4,cond_true]) ?_
    simp only[f180,c1,Option.bind_some,d,cond_false,i0,fa,c2,mU,hI,dE,h3,wS,e4,cond_true,p_,dm,lV,cH,n1,i1,ei]
   |false=>
    cases e1:U==hS with
    |true=>
     refine one (show f' [U,aY,w2] rest=some (⟨aY,3,0,w2⟩,rest) by unfold f';simp only[e4,e1,cond_true,cond_false]) ?_
     simp only[f180,c1,Option.bind_some,d,cond_false,i0,fa,c2,mU,hI,dE,h3,wS,e4,cond_true,p_,dm,lV,cH,i1,ei,nX,CF,e1]
    |false=>
     refine zero (show f' [U,aY,w2] rest=none by unfold f';simp only[e4,e1,cond_false]) ?_
     simp only[f180,c1,Option.bind_some,d,cond_false,i0,fa,c2,mU,hI,dE,h3,aC,wS,e4,nX,CF,e1,o4];cases U==([102,105,108,101]:B)<;>rfl
  |[U,aY,w2,cf],_,c2,hm,hp=>
   have hI:be ([U,aY,w2,cf]:List B).length (0:Int)=some 0:=rfl;have lV:be ([U,aY,w2,cf]:List B).length (1:Int)=some 1:=rfl;have p_:be ([U,aY,w2,cf]:List B).length (2:Int)=some 2:=rfl;have Nw:be ([U,aY,w2,cf]:List B).length (3:Int)=some 3:=rfl;have dE:([U,aY,w2,cf]:List B)[0]? =some U:=rfl;have cH:([U,aY,w2,cf]:List B)[1]? =some aY:=rfl;have dm:([U,aY,w2,cf]:List B)[2]? =some w2:=rfl;have dK:([U,aY,w2,cf]:List B)[3]? =some cf:=rfl;have h3:((([U,aY,w2,cf]:List B).length:Int)==3)=false:=rfl;have aC:((([U,aY,w2,cf]:List B).length:Int)==4)=true:=rfl;have m1:=hm aY (by simp)
   have m3:=hm cf (by simp)
   have n1:=qm aY (by unfold ar;omega)
   have iN:=qm cf (by unfold ar;omega)
   have b1:∀b:Bool,(bif b then some ((((),(([]:B),(false,((),((),(false,())))))),((([]:B),((0:Int),((0:Int),(([]:B),())))),([bX,rest],([U,aY,w2,cf],()))))) else some ((((),(([]:B),(false,((),((),(false,())))))),((([]:B),((0:Int),((0:Int),(([]:B),())))),([bX,rest],([U,aY,w2,cf],()))))))=some ((((),(([]:B),(false,((),((),(false,())))))),((([]:B),((0:Int),((0:Int),(([]:B),())))),([bX,rest],([U,aY,w2,cf],()))))):=fun b=>by cases b<;>rfl
   cases e2:U==ik with
   |false=>
    refine zero (show f' [U,aY,w2,cf] rest=none by unfold f';simp only[e2,cond_false]) ?_
    simp only[f180,c1,Option.bind_some,d,cond_false,i0,fa,c2,mU,hI,dE,h3,aC,b1,nX,o4,tr,e2]
   |true=>
    have hw:f' [U,aY,w2,cf] rest=rk aY w2 cf rest:=by unfold f';simp only[e2,cond_true]
    rw[hw];have jv:IntKind.i64.wrap (((rest.length:Nat):Int)-1)=(rest.length:Int)-1:=cS (by omega) (by omega)
    have hin:=n_ ((gI cf,((0:Int),((rest.length:Int)-1,()))),());have hin:f75 ((gI cf,((0:Int),((rest.length:Int)-1,()))),())=some ((within (gI cf) 0 ((rest.length:Int)-1),()),()):=hin;cases hi:within (gI cf) 0 ((rest.length:Int)-1) with
    |false=>
     rw[hi] at hin;refine zero (by unfold rk;rw[hi];rfl) ?_
     simp only[f180,c1,Option.bind_some,d,cond_false,i0,fa,c2,mU,hI,dE,h3,aC,b1,nX,o4,tr,e2,cond_true,Nw,dK,iN,uY,i1,ei,jv,hin,Bool.not_false,Bool.not_true]
    |true=>
     rw[hi] at hin;have hb:=sy hi;obtain⟨n,hn⟩:∃n:Nat,gI cf=(n:Int):=⟨(gI cf).toNat,by omega⟩
     rw[hn] at hin iN hb;have hlt:n<rest.length:=by omega
     have dW:rk aY w2 cf rest=match rest.drop n with|10::eH=>some (⟨w2,2,gI aY,rest.take n⟩,eH)|_=>none:=by
      unfold rk;rw[hi,hn];rfl
     have wu:rest.drop n=rest[n]::rest.drop (n+1):=List.drop_eq_getElem_cons hlt;have hx:aO rest ((n:Nat):Int)=some rest[n]:=by rw[b4];exact List.getElem?_eq_getElem hlt
     rw[wu] at dW;rw[dW];generalize rest[n]=b at hx;by_cases rH:b=10
     ·subst rH;have t1:((((10:UInt8).toNat:Nat):Int) !=10)=false:=rfl;have s1:bm rest 0 ((n:Nat):Int)=some (rest.take n):=gj (by omega)
      have awv:IntKind.i64.wrap (((n:Nat):Int)+1)=((n+1:Nat):Int):=bU (by unfold ar;omega)
      have s2:bm rest ((n+1:Nat):Int) ((rest.length:Nat):Int)=some (rest.drop (n+1)):=fc (by omega)
      refine one rfl ?_
      simp only[f180,c1,Option.bind_some,d,cond_false,i0,fa,c2,mU,hI,dE,h3,aC,b1,nX,o4,tr,e2,cond_true,Nw,dK,iN,uY,i1,ei,jv,hin,Bool.not_false,Bool.not_true,hx,t1,p_,dm,lV,cH,n1,s1,awv,s2]
     ·have t1:(((b.toNat:Nat):Int) !=10)=true:=by
       rw[bne_iff_ne];intro h;exact rH (UInt8.toNat_inj.1 (by have:((10:UInt8).toNat:Int)=10:=rfl;omega))
      refine zero (by split<;>first|rfl|(rename_i h;simp at h;exact absurd h.1 rH)) ?_
      simp only[f180,c1,Option.bind_some,d,cond_false,i0,fa,c2,mU,hI,dE,h3,aC,b1,nX,o4,tr,e2,cond_true,Nw,dK,iN,uY,i1,ei,jv,hin,Bool.not_false,Bool.not_true,hx,t1]
theorem S2{s r:B}{e:aw}(h:nu s=some (e,r)):e.path.length<=s.length/\e.text.length<=s.length/\r.length<s.length:=by
 unfold nu at h;cases az:dv 10 s with
 |none=>rw[az] at h;cases h
 |some q=>
  obtain⟨bX,rest⟩:=q;rw[az] at h;have hl:=(jh az).1;have hl:s.length=bX.length+1+rest.length:=by rw[hl];simp;omega
  have hm:=qf 32 4 bX;have h:f' (splitN 32 4 bX) rest=some (e,r):=h;generalize splitN 32 4 bX=ws at h hm;unfold f' at h;split at h
  ·rename_i U aY w2;have m1:=hm aY (by simp)
   have m2:=hm w2 (by simp)
   cases e4:U==hU<;>simp only[e4,cond_true,cond_false] at h
   ·cases e1:U==hS<;>simp only[e1,cond_true,cond_false] at h
    ·cases h
    ·simp only[Option.some.injEq,Prod.mk.injEq] at h;obtain⟨rfl,rfl⟩:=h;exact⟨by show aY.length<=_;omega,by show w2.length<=_;omega,by omega⟩
   ·simp only[Option.some.injEq,Prod.mk.injEq] at h;obtain⟨rfl,rfl⟩:=h;exact⟨by show w2.length<=_;omega,by show 0<=_;omega,by omega⟩
  ·rename_i U aY w2 cf;have m2:=hm w2 (by simp)
   cases e2:U==ik<;>simp only[e2,cond_true,cond_false] at h
   ·cases h
   ·unfold rk at h;cases dy:within (gI cf) 0 ((rest.length:Int)-1)<;>simp only[dy,cond_true,cond_false] at h
    ·cases h
    ·split at h
     ·rename_i eH aa;simp only[Option.some.injEq,Prod.mk.injEq] at h;obtain⟨rfl,rfl⟩:=h;have Mu:=congrArg List.length aa;simp only[List.length_drop,List.length_cons] at Mu;exact⟨by show w2.length<=_;omega,by show(rest.take _).length<=_;simp;omega,by omega⟩
     ·cases h
  ·cases h
theorem alB{e:aw}(h:eN e=true)(r:B):nu (dZ e++r)=some (e,r):=by
 have hw:=(Fg h).1;unfold nu;rw[QA h];show f' (splitN 32 4 (pq e)) (wj e r)=_;obtain⟨n,hn,ia⟩:=GB h;have g2:=FG n (by omega)
 have rm:splitN 32 4 (pq e)=l9 e:=Og _ 4 (by unfold l9;cases e.kind==1<;>cases e.kind==3<;>simp) hw (by unfold l9;cases e.kind==1<;>cases e.kind==3<;>simp)
 rw[rm];obtain⟨p,k,m,t⟩:=e;have hn:m=n:=hn;subst hn;rcases u0 h with hk|hk|hk
 ·have hk:k=1:=hk;subst hk;have au:t=[]:=QL h rfl;subst au;show f' [hU,Lib.itoa (n:Int),p] r=_;unfold f';have e2:(hU==hU)=true:=by decide
  simp only[e2,g2,cond_true]
 ·have hk:k=2:=hk;subst hk;have hb:t.length<=80:=by
   have:=Pt h rfl;unfold n' at this;simp only[Bool.and_eq_true,decide_eq_true_eq] at this;exact this.2
  have aF:=FG t.length (by omega)
  show f' [ik,Lib.itoa (n:Int),p,Lib.itoa (t.length:Int)] (t++10::r)=_;unfold f';have bC:(ik==ik)=true:=by decide
  simp only[bC,cond_true];unfold rk;have d1:(t++10::r).drop t.length=10::r:=by simp
  have d2:(t++10::r).take t.length=t:=by simp
  have hw:within (t.length:Int) 0 (((t++10::r).length:Int)-1)=true:=by
   unfold within;rw[decide_eq_true (by omega),decide_eq_true (by simp;omega)]
   rfl
  simp only[aF,hw,cond_true,Int.toNat_natCast,d1,d2,g2]
 ·have hk:k=3:=hk;subst hk;obtain⟨_,hm⟩:=Fb h rfl;have hm:(n:Int)=0:=hm;show f' [hS,p,t] r=_;unfold f';have e1:(hS==hU)=false:=by decide
  have e2:(hS==hS)=true:=by decide
  simp only[e1,e2,cond_true,cond_false];rw[hm]
end Go.Proofs
