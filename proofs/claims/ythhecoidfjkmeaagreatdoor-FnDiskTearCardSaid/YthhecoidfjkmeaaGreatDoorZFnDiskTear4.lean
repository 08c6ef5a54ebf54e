/- FnDiskTear: writing a root is atomic. (part 5 of 7: JkKPuSa, JkKF277, JkKF257, JkKPuSb, JkKF121, JkKPuSc, JkKF256, JkKF220, JkKPuSd, JkKF122v0, JkKF219, JkKF173, JkKF69, JkKPuSe, JkKF63v0, JkKPl, JkKFH64, JkKF120, JkKF83, JkKF226, JkKF181, JkKPuPa, JkK) Conditions: none beyond the statement. -/
import Derived.Test.YthhecoidfjkmeaaGreatDoorZFnDiskTear3
import Derived.Tactics
import Derived.Deep.RegionLaw
import Derived.Shelf.Abstract
import Derived.Test.YthhecoidfjkmeaaGreatDoorProg
import Derived.KernelRfl
import Derived.Shelf.LaysM
import Derived.Shelf.Strconv.Itoa3
import Derived.Shelf.Strings.IndexAnyAll
import Derived.Laws.RangeAny
import Derived.Lib.OthersKept
import Derived.Shelf.Small.Utf8
import Derived.Laws.Runes
import Derived.Laws.Cover4
import Derived.WalkMore
import Derived.Shelf.RegionOpenPlain
set_option maxRecDepth 100000
set_option linter.unusedVariables false
set_option linter.unusedSimpArgs false
namespace Go.Proofs
open Go.Jk
theorem fK{J bq:Type}{g:J->Option (Sum J bq)}(st:Nat->J)(n:Nat){b:bq}(h:∀i,i<n->g (st i)=some (.inl (st (i+1))))(he:g (st n)=some (.inr b)):∀k i,i+k=n->bu g (st i)=some b:=by
 intro k;induction k with
 |zero=>
  intro i hi;obtain rfl:i=n:=by omega
  exact cp he
 |succ k ih=>
  intro i hi;rw[dM (h i (by omega))]
  exact ih (i+1) (by omega)
theorem akM(k:IntKind)(x y:Int):h6 k x y=h6 k y x:=by unfold h6;rw[BitVec.or_comm]
def kP(x n:Int):Int:=h6 .u32 (x.fdiv (2^n.toNat)) (IntKind.u32.wrap (x*2^(32-n).toNat))
def eR(n:Int):Prop:=n=2\/n=6\/n=7\/n=11\/n=13\/n=17\/n=18\/n=19\/n=22\/n=25
theorem mY(x n:Int)(h:eR n):f278 ((x,(n,())),())=some ((kP x n,()),()):=by
 rcases h with rfl|rfl|rfl|rfl|rfl|rfl|rfl|rfl|rfl|rfl<;>rfl
theorem hO(x n:Int)(h:eR n):f171 ((x,(n,())),())=some ((kP x n,()),()):=by
 have a2:eF .u64 (IntKind.u64.wrap (IntKind.i64.wrap (0-2))) 31=30:=by decide
 have ym:eF .u64 (IntKind.u64.wrap (IntKind.i64.wrap (0-6))) 31=26:=by decide
 have yl:eF .u64 (IntKind.u64.wrap (IntKind.i64.wrap (0-7))) 31=25:=by decide
 have M':eF .u64 (IntKind.u64.wrap (IntKind.i64.wrap (0-11))) 31=21:=by decide
 have ayY:eF .u64 (IntKind.u64.wrap (IntKind.i64.wrap (0-13))) 31=19:=by decide
 have ayW:eF .u64 (IntKind.u64.wrap (IntKind.i64.wrap (0-17))) 31=15:=by decide
 have ayV:eF .u64 (IntKind.u64.wrap (IntKind.i64.wrap (0-18))) 31=14:=by decide
 have ayU:eF .u64 (IntKind.u64.wrap (IntKind.i64.wrap (0-19))) 31=13:=by decide
 have ayT:eF .u64 (IntKind.u64.wrap (IntKind.i64.wrap (0-22))) 31=10:=by decide
 have ayS:eF .u64 (IntKind.u64.wrap (IntKind.i64.wrap (0-25))) 31=7:=by decide
 unfold kP;rw[akM];rcases h with rfl|rfl|rfl|rfl|rfl|rfl|rfl|rfl|rfl|rfl<;>simp only[f171,f217,a2,ym,yl,M',ayY,ayW,ayV,ayU,ayT,ayS]<;>rfl
theorem pa{x:Int}(h0:0<=x)(h1:x<4294967296):IntKind.u32.wrap x=x:=by rw[IntKind.wrap_u32];omega
theorem FP{a:Nat}(h:a<4294967296):(BitVec.ofInt IntKind.u32.bits (a:Int)).toNat=a:=by
 rw[BitVec.ofInt_natCast,BitVec.toNat_ofNat];exact Nat.mod_eq_of_lt h
theorem AX{m y k:Nat}(hy:y<2^k)(h:m*2^k+y<4294967296):h6 .u32 ((m*2^k:Nat):Int) (y:Int)=((m*2^k+y:Nat):Int):=by
 unfold h6;rw[BitVec.toNat_or,FP (by omega),FP (by omega),<-Nat.shiftLeft_eq,<-Nat.shiftLeft_add_eq_or_of_lt hy,Nat.shiftLeft_eq,pa (by omega) (by omega)]
abbrev kC(x:Int):Prop:=0<=x/\x<=255
def wd(a b c d:Int):Int:=a*16777216+b*65536+c*256+d
def gY(w c:Int):Int:=h6 .u32 (IntKind.u32.wrap (w*256)) (IntKind.u32.wrap c)
theorem yT{w c:Nat}(hw:w<16777216)(hc:c<256):gY w c=((w*256+c:Nat):Int):=by
 unfold gY;rw[pa (x:=(w:Int)*256) (by omega) (by omega),pa (x:=(c:Int)) (by omega) (by omega)]
 exact AX (k:=8) (by omega) (by omega)
theorem pn{x:Int}(h:kC x):∃n:Nat,x=n/\n<256:=by
 obtain⟨n,rfl⟩:=Int.eq_ofNat_of_zero_le h.1;exact⟨n,rfl,by omega⟩
theorem alH{a b c d:Int}(ha:kC a)(hb:kC b)(hc:kC c)(Z:kC d):gY (gY (gY (gY 0 a) b) c) d=wd a b c d:=by
 obtain⟨a,rfl,sd⟩:=pn ha;obtain⟨b,rfl,sb⟩:=pn hb;obtain⟨c,rfl,yc⟩:=pn hc;obtain⟨d,rfl,yb⟩:=pn Z;have eT:gY 0 (a:Int)=((0*256+a:Nat):Int):=yT (w:=0) (by omega) sd
 rw[eT,yT (by omega) sb,yT (by omega) yc,yT (by omega) yb]
 unfold wd;omega
theorem alG{a b c d:Int}(ha:kC a)(hb:kC b)(hc:kC c)(Z:kC d):
  h6 .u32 (h6 .u32 (h6 .u32 (IntKind.u32.wrap (IntKind.u32.wrap a*16777216)) (IntKind.u32.wrap (IntKind.u32.wrap b*65536))) (IntKind.u32.wrap (IntKind.u32.wrap c*256))) (IntKind.u32.wrap d)=wd a b c d:=by
 obtain⟨a,rfl,sd⟩:=pn ha;obtain⟨b,rfl,sb⟩:=pn hb;obtain⟨c,rfl,yc⟩:=pn hc;obtain⟨d,rfl,yb⟩:=pn Z;have w:∀{x:Nat},x<256->IntKind.u32.wrap (x:Int)=x:=fun h=>pa (by omega) (by omega)
 rw[w sd,w sb,w yc,w yb,pa (x:=(a:Int)*16777216) (by omega) (by omega),pa (x:=(b:Int)*65536) (by omega) (by omega),pa (x:=(c:Int)*256) (by omega) (by omega)]
 have e1:h6 .u32 ((a:Int)*16777216) ((b:Int)*65536)=(((a*256+b)*2^16:Nat):Int):=by
  have:=AX (m:=a) (y:=b*65536) (k:=24) (by omega) (by omega)
  rw[show((a:Int)*16777216)=((a*2^24:Nat):Int) by omega,show((b:Int)*65536)=((b*65536:Nat):Int) by omega,this];omega
 have e2:h6 .u32 (((a*256+b)*2^16:Nat):Int) ((c:Int)*256)=((((a*256+b)*256+c)*2^8:Nat):Int):=by
  have:=AX (m:=a*256+b) (y:=c*256) (k:=16) (by omega) (by omega)
  rw[show((c:Int)*256)=((c*256:Nat):Int) by omega,this];omega
 have br:=AX (m:=(a*256+b)*256+c) (y:=d) (k:=8) (by omega) (by omega)
 rw[e1,e2,br];unfold wd;omega
def gb(b:List Int)(i:Nat):Int:=b.getD i 0
def L7(x:Int):Int:=dl .u32 (dl .u32 (kP x 7) (kP x 18)) (x.fdiv 8)
def L6(x:Int):Int:=dl .u32 (dl .u32 (kP x 17) (kP x 19)) (x.fdiv 1024)
def wU(w:List Int)(i:Nat):Int:=IntKind.u32.wrap (IntKind.u32.wrap (IntKind.u32.wrap (gb w (i-16)+L7 (gb w (i-15)))+gb w (i-7))+L6 (gb w (i-2)))
def cu(b:List Int):Nat->List Int
 |0=>[]
 |i+1=>cu b i++[bif decide (i<16) then wd (gb b (4*i)) (gb b (4*i+1)) (gb b (4*i+2)) (gb b (4*i+3)) else wU (cu b i) i]
theorem n_(b:List Int):∀i,(cu b i).length=i
 |0=>rfl
 |i+1=>by simp[cu,n_ b i]
theorem mf{b:List Int}{j:Nat}(h:j<b.length):b[j]? =some (gb b j):=by
 unfold gb;rw[List.getD_eq_getElem?_getD,List.getElem?_eq_getElem h];rfl
theorem wE{b:List Int}{j:Nat}(h:j<b.length):aO b (j:Int)=some (gb b j):=by rw[b5];exact mf h
theorem Xh(x:Int):fk .u32 x 3=some (x.fdiv 8):=rfl
theorem Wg(x:Int):fk .u32 x 10=some (x.fdiv 1024):=rfl
theorem aqr(x:Int):lL .u32 x 24=some (IntKind.u32.wrap (x*16777216)):=rfl
theorem aqs(x:Int):lL .u32 x 16=some (IntKind.u32.wrap (x*65536)):=rfl
theorem wQ(x:Int):lL .u32 x 8=some (IntKind.u32.wrap (x*256)):=rfl
abbrev rX(b:List Int):Prop:=b.length=64/\∀x,x∈b->kC x
theorem rX.qb{b:List Int}(h:rX b){j:Nat}(hj:j<64):kC (gb b j):=by
 refine h.2 _ ?_
 have:=mf (b:=b) (j:=j) (by rw[h.1];exact hj)
 exact List.mem_of_getElem? this
theorem k9{i:Nat}(h:i<=64)(j:Nat)(hj:j<=4):IntKind.i64.wrap (IntKind.i64.wrap ((4:Int)*(i:Int))+(j:Int))=((4*i+j:Nat):Int):=by
 rw[cT (n:=4*(i:Int)) (by omega) (by omega),cT (by omega) (by omega)];omega
theorem ud{i:Nat}(h:i<=64):IntKind.i64.wrap ((4:Int)*(i:Int))=((4*i:Nat):Int):=by
 rw[cT (n:=4*(i:Int)) (by omega) (by omega)];omega
theorem qf{i:Nat}{q:Int}(k:Nat)(e:q=(k:Int))(h:i<=64)(hk:k<=i):IntKind.i64.wrap ((i:Int)-q)=((i-k:Nat):Int):=by
 subst e;rw[cT (by omega) (by omega)];omega
theorem wp{i:Nat}(h:i<=64):IntKind.i64.wrap ((i:Int)+1)=((i+1:Nat):Int):=bX (by unfold au;omega)
theorem ahF(b:List Int)(h:rX b):f276 ((b,()),())=some (((),()),(cu b 64,())):=by
 have aE:Im ((b,((),((0:Int),()))),(([]:List Int),()))=some (((),()),(cu b 16,())):=by
  refine fK (g:=IT) (fun i=>((b,((),((i:Int),()))),(cu b i,()))) 16 (fun i hi=>?_) rfl 16 0 rfl
  have hl:decide ((i:Int)<16)=true:=by simp;omega
  have h0:=wE (b:=b) (j:=4*i) (by rw[h.1];omega)
  have h1:=wE (b:=b) (j:=4*i+1) (by rw[h.1];omega)
  have h2:=wE (b:=b) (j:=4*i+2) (by rw[h.1];omega)
  have h3:=wE (b:=b) (j:=4*i+3) (by rw[h.1];omega)
  have q1:IntKind.i64.wrap (((4*i:Nat):Int)+1)=((4*i+1:Nat):Int):=by have:=k9 (i:=i) (by omega) 1 (by omega);rwa[ud (by omega)] at this
  have q2:IntKind.i64.wrap (((4*i:Nat):Int)+2)=((4*i+2:Nat):Int):=by have:=k9 (i:=i) (by omega) 2 (by omega);rwa[ud (by omega)] at this
  have dF:IntKind.i64.wrap (((4*i:Nat):Int)+3)=((4*i+3:Nat):Int):=by have:=k9 (i:=i) (by omega) 3 (by omega);rwa[ud (by omega)] at this
  have hw:=alG (h.qb (j:=4*i) (by omega)) (h.qb (j:=4*i+1) (by omega)) (h.qb (j:=4*i+2) (by omega)) (h.qb (j:=4*i+3) (by omega))
  have Z:decide (i<16)=true:=by simpa using hi
  simp only[IT,hl,cond_true,ud (i:=i) (by omega),q1,q2,dF,h0,h1,h2,h3,Option.bind_some,aqr,aqs,wQ,hw,wp (i:=i) (by omega)]
  rw[di (by decide) (by rw[n_];unfold au;simp;omega)]
  simp only[Option.bind_some,cu,Z,cond_true]
 have aF:GR (((),((16:Int),())),(cu b 16,()))=some (((),()),(cu b 64,())):=by
  refine fK (g:=G_) (fun i=>(((),(((16+i:Nat):Int),())),(cu b (16+i),()))) 48 (fun i hi=>?_) rfl 48 0 rfl
  have hl:decide (((16+i:Nat):Int)<64)=true:=by simp;omega
  have hlen:=n_ b (16+i);have Z:decide (16+i<16)=false:=by simp
  have t7:=fun x=>mY x 7 (by simp[eR]);have t18:=fun x=>mY x 18 (by simp[eR])
  have t17:=fun x=>mY x 17 (by simp[eR]);have t19:=fun x=>mY x 19 (by simp[eR])
  have i15:be (cu b (16+i)).length (IntKind.i64.wrap (((16+i:Nat):Int)-15))=some (16+i-15):=by rw[qf (i:=16+i) (q:=15) 15 rfl (by omega) (by omega)];exact fx (by rw[hlen];omega)
  have i2:be (cu b (16+i)).length (IntKind.i64.wrap (((16+i:Nat):Int)-2))=some (16+i-2):=by rw[qf (i:=16+i) (q:=2) 2 rfl (by omega) (by omega)];exact fx (by rw[hlen];omega)
  have i16:be (cu b (16+i)).length (IntKind.i64.wrap (((16+i:Nat):Int)-16))=some (16+i-16):=by rw[qf (i:=16+i) (q:=16) 16 rfl (by omega) (by omega)];exact fx (by rw[hlen];omega)
  have i7:be (cu b (16+i)).length (IntKind.i64.wrap (((16+i:Nat):Int)-7))=some (16+i-7):=by rw[qf (i:=16+i) (q:=7) 7 rfl (by omega) (by omega)];exact fx (by rw[hlen];omega)
  have g15:=mf (b:=cu b (16+i)) (j:=16+i-15) (by rw[hlen];omega)
  have g2:=mf (b:=cu b (16+i)) (j:=16+i-2) (by rw[hlen];omega)
  have g16:=mf (b:=cu b (16+i)) (j:=16+i-16) (by rw[hlen];omega)
  have g7:=mf (b:=cu b (16+i)) (j:=16+i-7) (by rw[hlen];omega)
  simp only[G_,hl,cond_true,i15,i2,i16,i7,g15,g2,g16,g7,Option.bind_some,t7,t18,t17,t19,Xh,Wg,wp (i:=16+i) (by omega)]
  rw[di (by decide) (by rw[hlen];unfold au;simp;omega)]
  have hs:cu b (16+(i+1))=cu b (16+i)++[wU (cu b (16+i)) (16+i)]:=by
   show cu b ((16+i)+1)=_;simp only[cu,Z,cond_false]
  simp only[Option.bind_some,hs,wU,L7,L6];rfl
 have hm:j4 4 (0:Int) (64:Int) (0:Int)=some ([]:List Int):=rfl;simp only[f276,hm,Option.bind_some,aE,aF]
abbrev i277:Shape:=⟨[],[],2⟩
abbrev Xw:Shape:=⟨[ba 0 3000000],[a' 3000000 .u32 0 0],2⟩
noncomputable def f277(a:i277.J):Option Xw.J:=
 some (((),()),([(1116352408:Int),(1899447441:Int),(3049323471:Int),(3921009573:Int),(961987163:Int),(1508970993:Int),(2453635748:Int),(2870763221:Int),(3624381080:Int),(310598401:Int),(607225278:Int),(1426881987:Int),(1925078388:Int),(2162078206:Int),(2614888103:Int),(3248222580:Int),(3835390401:Int),(4022224774:Int),(264347078:Int),(604807628:Int),(770255983:Int),(1249150122:Int),(1555081692:Int),(1996064986:Int),(2554220882:Int),(2821834349:Int),(2952996808:Int),(3210313671:Int),(3336571891:Int),(3584528711:Int),(113926993:Int),(338241895:Int),(666307205:Int),(773529912:Int),(1294757372:Int),(1396182291:Int),(1695183700:Int),(1986661051:Int),(2177026350:Int),(2456956037:Int),(2730485921:Int),(2820302411:Int),(3259730800:Int),(3345764771:Int),(3516065817:Int),(3600352804:Int),(4094571909:Int),(275423344:Int),(430227734:Int),(506948616:Int),(659060556:Int),(883997877:Int),(958139571:Int),(1322822218:Int),(1537002063:Int),(1747873779:Int),(1955562222:Int),(2024104815:Int),(2227730452:Int),(2361852424:Int),(2428436474:Int),(2756734187:Int),(3204031479:Int),(3329325298:Int)]:List Int),())
noncomputable def ZR:aD:=aH ad Tryz.f277 i277 Xw [] f277
theorem arC:aB O 277 ZR:=aK g0 Tryz.func277 (by kernel_rfl) ae (fun y=>by kernel_rfl) fun a=>by kernel_rfl
noncomputable abbrev at5:a_:=[(276,ZS),(277,ZR),(278,Lk)]
theorem Dx:aR O (aX ad at5):=aV ⟨arD,arC,W2,⟨⟩⟩
abbrev yt:Shape:=⟨[aL 0 .u32,ba 5 3000320,ba 6 3000384,ba 7 3000448,ag 8,(11,.am (.d (.int .u32))),(12,.am (.d (.int .u32))),(13,.am (.d (.int .u32))),ag 14],[a' 3000320 .u32 5 0,a' 3000384 .u32 6 0,a' 3000448 .u32 7 0],155⟩
abbrev ET:List aP:=[(.exit 2,⟨[aL 0 .u32,ba 5 3000320,ba 6 3000384,ba 7 3000448,ag 8,(11,.am (.d (.int .u32))),(12,.am (.d (.int .u32))),(13,.am (.d (.int .u32)))],[a' 3000320 .u32 5 0,a' 3000384 .u32 6 0,a' 3000448 .u32 7 0],155⟩)]
noncomputable def OK(y:yt.J):bG yt ET:=
 bif(decide (y.1.2.2.2.2.2.2.2.2.1>(0:Int))) then
(be y.2.2.2.1.length (IntKind.i64.wrap (y.1.2.2.2.2.2.2.2.2.1-(1:Int)))).bind fun a=>
(y.2.2.2.1[a]?).bind fun b=>
(be y.2.2.2.1.length y.1.2.2.2.2.2.2.2.2.1).bind fun c=>
((y.2.2.2.1[c]?).bind fun q=>some b).bind fun d=>
 some (.inl ((y.1.1,(),(),(),y.1.2.2.2.2.1,y.1.2.2.2.2.2.1,y.1.2.2.2.2.2.2.1,y.1.2.2.2.2.2.2.2.1,(IntKind.i64.wrap (y.1.2.2.2.2.2.2.2.2.1-(1:Int))),()),y.2.1,y.2.2.1,(y.2.2.2.1.set c d),()))
else
 some (.inr ((y.1.1,(),(),(),y.1.2.2.2.2.1,y.1.2.2.2.2.2.1,y.1.2.2.2.2.2.2.1,y.1.2.2.2.2.2.2.2.1,()),y.2.1,y.2.2.1,y.2.2.2.1,()))
noncomputable def EV:yt.J->Option (aC ET):=bu OK
theorem afa:aT O (an (c4 (an (codeOf Tryz.f257) 1 250)) 500 1025274) (aU yt ET EV):=bI Dx (by kernel_rfl) ae fun y=>by kernel_rfl
abbrev zw:Shape:=⟨[aL 0 .u32,ba 5 3000320,ba 6 3000384,ba 7 3000448,ag 8],[a' 3000320 .u32 5 0,a' 3000384 .u32 6 0,a' 3000448 .u32 7 0],155⟩
abbrev Gs:List aP:=[(.exit 0,⟨[aL 0 .u32,ba 7 3000448],[a' 3000448 .u32 7 0],155⟩)]
noncomputable def G'(y:zw.J):bG zw Gs:=
 bif(decide (y.1.2.2.2.2.1<(64:Int))) then
(be y.2.2.2.1.length (4:Int)).bind fun a=>
(y.2.2.2.1[a]?).bind fun b=>
(f278 ((b,(6:Int),()),())).bind fun c=>
(be y.2.2.2.1.length (4:Int)).bind fun d=>
(y.2.2.2.1[d]?).bind fun e=>
(f278 ((e,(11:Int),()),())).bind fun f=>
(be y.2.2.2.1.length (4:Int)).bind fun g=>
(y.2.2.2.1[g]?).bind fun h=>
(f278 ((h,(25:Int),()),())).bind fun i=>
(be y.2.2.2.1.length (4:Int)).bind fun j=>
(y.2.2.2.1[j]?).bind fun k=>
(be y.2.2.2.1.length (5:Int)).bind fun l=>
(y.2.2.2.1[l]?).bind fun m=>
(be y.2.2.2.1.length (4:Int)).bind fun n=>
(y.2.2.2.1[n]?).bind fun D=>
(be y.2.2.2.1.length (6:Int)).bind fun p=>
(y.2.2.2.1[p]?).bind fun r=>
(be y.2.2.2.1.length (7:Int)).bind fun s=>
(y.2.2.2.1[s]?).bind fun t=>
(be y.2.2.1.length y.1.2.2.2.2.1).bind fun u=>
(y.2.2.1[u]?).bind fun v=>
(be y.2.1.length y.1.2.2.2.2.1).bind fun w=>
(y.2.1[w]?).bind fun x=>
(be y.2.2.2.1.length (0:Int)).bind fun z=>
(y.2.2.2.1[z]?).bind fun A=>
(f278 ((A,(2:Int),()),())).bind fun bq=>
(be y.2.2.2.1.length (0:Int)).bind fun C=>
(y.2.2.2.1[C]?).bind fun bh=>
(f278 ((bh,(13:Int),()),())).bind fun E=>
(be y.2.2.2.1.length (0:Int)).bind fun aS=>
(y.2.2.2.1[aS]?).bind fun G=>
(f278 ((G,(22:Int),()),())).bind fun H=>
(be y.2.2.2.1.length (0:Int)).bind fun I=>
(y.2.2.2.1[I]?).bind fun e8=>
(be y.2.2.2.1.length (1:Int)).bind fun K=>
(y.2.2.2.1[K]?).bind fun L=>
(be y.2.2.2.1.length (0:Int)).bind fun fi=>
(y.2.2.2.1[fi]?).bind fun N=>
(be y.2.2.2.1.length (2:Int)).bind fun aBm=>
(y.2.2.2.1[aBm]?).bind fun P=>
(be y.2.2.2.1.length (1:Int)).bind fun Q=>
(y.2.2.2.1[Q]?).bind fun R=>
(be y.2.2.2.1.length (2:Int)).bind fun S=>
(y.2.2.2.1[S]?).bind fun T=>
(EV ((y.1.1,(),(),(),y.1.2.2.2.2.1,(IntKind.u32.wrap ((IntKind.u32.wrap ((IntKind.u32.wrap ((IntKind.u32.wrap (t+(dl .u32 (dl .u32 c.1.1 f.1.1) i.1.1)))+(dl .u32 (eF .u32 k m) (eF .u32 (dl .u32 4294967295 D) r))))+v))+x)),(dl .u32 (dl .u32 bq.1.1 E.1.1) H.1.1),(dl .u32 (dl .u32 (eF .u32 e8 L) (eF .u32 N P)) (eF .u32 R T)),(7:Int),()),y.2.1,y.2.2.1,y.2.2.2.1,())).bind fun d_=>
(be d_.2.2.2.1.length (4:Int)).bind fun V=>
(d_.2.2.2.1[V]?).bind fun W=>
(be d_.2.2.2.1.length (4:Int)).bind fun X=>
((d_.2.2.2.1[X]?).bind fun q=>some (IntKind.u32.wrap (W+d_.1.2.2.2.2.2.1))).bind fun Oo=>
(be (d_.2.2.2.1.set X Oo).length (0:Int)).bind fun a0=>
(((d_.2.2.2.1.set X Oo)[a0]?).bind fun q=>some (IntKind.u32.wrap ((IntKind.u32.wrap (d_.1.2.2.2.2.2.1+d_.1.2.2.2.2.2.2.1))+d_.1.2.2.2.2.2.2.2.1))).bind fun a1=>
 some (.inl ((d_.1.1,(),(),(),(IntKind.i64.wrap (d_.1.2.2.2.2.1+(1:Int))),()),d_.2.1,d_.2.2.1,((d_.2.2.2.1.set X Oo).set a0 a1),()))
else
 some (.inr ((y.1.1,(),()),y.2.2.2.1,()))
noncomputable def GS:zw.J->Option (aC Gs):=bu G'
theorem akl:aT O (an (codeOf Tryz.f257) 1 250) (aU zw Gs GS):=bI Dx (by kernel_rfl) (a8 afa ae) fun y=>by kernel_rfl
abbrev yY:Shape:=⟨[aL 0 .u32,ba 7 3000448,ba 15 3000960,ag 16],[a' 3000448 .u32 7 0,a' 3000960 .u32 15 0],155⟩
abbrev Fy:List aP:=[(.exit 4,⟨[ba 15 3000960],[a' 3000960 .u32 15 0],155⟩)]
noncomputable def Q1(y:yY.J):bG yY Fy:=
 bif(decide (y.1.2.2.2.1<(8:Int))) then
(aO y.1.1 y.1.2.2.2.1).bind fun a=>
(be y.2.1.length y.1.2.2.2.1).bind fun b=>
(y.2.1[b]?).bind fun c=>
(b9 4 y.2.2.1 ([(IntKind.u32.wrap (a+c))]:List Int)).bind fun d=>
 some (.inl ((y.1.1,(),(),(IntKind.i64.wrap (y.1.2.2.2.1+(1:Int))),()),y.2.1,d,()))
else
 some (.inr (((),()),y.2.2.1,()))
noncomputable def FV:yY.J->Option (aC Fy):=bu Q1
theorem aim:aT O (an (codeOf Tryz.f257) 1 1018) (aU yY Fy FV):=bI Dx (by kernel_rfl) ae fun y=>by kernel_rfl
abbrev i257:Shape:=⟨[aL 0 .u32,aL 1 .u8],[],155⟩
abbrev XD:Shape:=⟨[ba 4 3000256],[a' 3000256 .u32 4 0],155⟩
noncomputable def f257(a:i257.J):Option XD.J:=
(f276 ((a.1.2.1,()),())).bind fun b=>
(f277 ((),())).bind fun c=>
(b9 4 ([]:List Int) a.1.1).bind fun d=>
(GS ((a.1.1,(),(),(),(0:Int),()),b.2.1,c.2.1,d,())).bind fun e=>
(FV ((e.1.1,(),(),(0:Int),()),e.2.1,([]:List Int),())).bind fun f=>
 some (((),()),f.2.1,())
noncomputable def ZZ:aD:=aH ad Tryz.f257 i257 XD [] f257
theorem arK:aB O 257 ZZ:=aK Dx Tryz.func257 (by kernel_rfl) (a8 akl (a8 aim ae)) (fun y=>by kernel_rfl) fun a=>by kernel_rfl
structure cn where
 (a b c d e f g h:Int)
def cn.list(s:cn):List Int:=[s.a,s.b,s.c,s.d,s.e,s.f,s.g,s.h]
def M9(e:Int):Int:=dl .u32 (dl .u32 (kP e 6) (kP e 11)) (kP e 25)
def M_(a:Int):Int:=dl .u32 (dl .u32 (kP a 2) (kP a 13)) (kP a 22)
def M8(e f g:Int):Int:=dl .u32 (eF .u32 e f) (eF .u32 (dl .u32 4294967295 e) g)
def Mb(a b c:Int):Int:=dl .u32 (dl .u32 (eF .u32 a b) (eF .u32 a c)) (eF .u32 b c)
def DM(s:cn)(k w:Int):Int:=IntKind.u32.wrap (IntKind.u32.wrap (IntKind.u32.wrap (IntKind.u32.wrap (s.h+M9 s.e)+M8 s.e s.f s.g)+k)+w)
def wR(k w:Int)(s:cn):cn:=⟨IntKind.u32.wrap (DM s k w+IntKind.u32.wrap (M_ s.a+Mb s.a s.b s.c)),s.a,s.b,s.c,IntKind.u32.wrap (s.d+DM s k w),s.e,s.f,s.g⟩
def mA(h:cn)(w:List Int):Nat->cn
 |0=>h
 |i+1=>wR (gb iJ i) (gb w i) (mA h w i)
def Do(h s:cn):cn:=⟨IntKind.u32.wrap (h.a+s.a),IntKind.u32.wrap (h.b+s.b),IntKind.u32.wrap (h.c+s.c),IntKind.u32.wrap (h.d+s.d),IntKind.u32.wrap (h.e+s.e),IntKind.u32.wrap (h.f+s.f),IntKind.u32.wrap (h.g+s.g),IntKind.u32.wrap (h.h+s.h)⟩
def w8(h:cn)(b:List Int):cn:=Do h (mA h (cu b 64) 64)
theorem alF(x y z:Int):IntKind.u32.wrap (IntKind.u32.wrap (x+y)+z)=IntKind.u32.wrap (x+IntKind.u32.wrap (y+z)):=by
 simp only[IntKind.wrap_u32];omega
theorem cn.i0(s:cn):be s.list.length 0=some 0:=rfl
theorem cn.i1(s:cn):be s.list.length 1=some 1:=rfl
theorem cn.i2(s:cn):be s.list.length 2=some 2:=rfl
theorem cn.i4(s:cn):be s.list.length 4=some 4:=rfl
theorem cn.i5(s:cn):be s.list.length 5=some 5:=rfl
theorem cn.i6(s:cn):be s.list.length 6=some 6:=rfl
theorem cn.i7(s:cn):be s.list.length 7=some 7:=rfl
theorem cn.g0(s:cn):s.list[0]? =some s.a:=rfl
theorem cn.g1(s:cn):s.list[1]? =some s.b:=rfl
theorem cn.g2(s:cn):s.list[2]? =some s.c:=rfl
theorem cn.g4(s:cn):s.list[4]? =some s.e:=rfl
theorem cn.g5(s:cn):s.list[5]? =some s.f:=rfl
theorem cn.g6(s:cn):s.list[6]? =some s.g:=rfl
theorem cn.g7(s:cn):s.list[7]? =some s.h:=rfl
def gx(s:cn):Nat->List Int
 |0=>s.list
 |1=>[s.a,s.b,s.c,s.d,s.e,s.f,s.g,s.g]
 |2=>[s.a,s.b,s.c,s.d,s.e,s.f,s.f,s.g]
 |3=>[s.a,s.b,s.c,s.d,s.e,s.e,s.f,s.g]
 |4=>[s.a,s.b,s.c,s.d,s.d,s.e,s.f,s.g]
 |5=>[s.a,s.b,s.c,s.c,s.d,s.e,s.f,s.g]
 |6=>[s.a,s.b,s.b,s.c,s.d,s.e,s.f,s.g]
 |_=>[s.a,s.a,s.b,s.c,s.d,s.e,s.f,s.g]
theorem H_:iJ.length=64:=by decide
theorem ahG(h:cn)(b:List Int)(hb:rX b):f257 ((h.list,(b,())),())=some (((),()),((w8 h b).list,())):=by
 have l1:=ahF b hb;have t2:=fun x=>mY x 2 (by simp[eR]);have t6:=fun x=>mY x 6 (by simp[eR]);have t11:=fun x=>mY x 11 (by simp[eR])
 have t13:=fun x=>mY x 13 (by simp[eR]);have t22:=fun x=>mY x 22 (by simp[eR]);have t25:=fun x=>mY x 25 (by simp[eR])
 have gl:∀(q:List Int) (i iA je p3:Int) (w:List Int) (s:cn),EV ((q,((),((),((),(i,(iA,(je,(p3,((7:Int),()))))))))),(w,(iJ,(s.list,()))))=
   some ((q,((),((),((),(i,(iA,(je,(p3,())))))))),(w,(iJ,(([s.a,s.a,s.b,s.c,s.d,s.e,s.f,s.g]:List Int),())))):=by
  intro q i iA je p3 w s;refine fK (g:=OK) (fun j=>((q,((),((),((),(i,(iA,(je,(p3,(((7-j:Nat):Int),()))))))))),(w,(iJ,(gx s j,()))))) 7 (fun j hj=>?_) rfl 7 0 rfl
  have:j=0\/j=1\/j=2\/j=3\/j=4\/j=5\/j=6:=by omega
  rcases this with rfl|rfl|rfl|rfl|rfl|rfl|rfl<;>rfl
 have bT:f277 ((),())=some (((),()),(iJ,())):=rfl;have hc:b9 4 ([]:List Int) h.list=some h.list:=rfl;have aE:GS ((h.list,((),((),((),((0:Int),()))))),(cu b 64,(iJ,(h.list,()))))=some ((h.list,((),())),((mA h (cu b 64) 64).list,())):=by
  refine fK (g:=G') (fun i=>((h.list,((),((),((),((i:Int),()))))),(cu b 64,(iJ,((mA h (cu b 64) i).list,()))))) 64 (fun i hi=>?_) rfl 64 0 rfl
  have hl:decide ((i:Int)<64)=true:=by simp;omega
  have i1:be iJ.length (i:Int)=some i:=fx (by rw[H_];exact hi)
  have g1:=mf (b:=iJ) (j:=i) (by rw[H_];exact hi)
  have i2:be (cu b 64).length (i:Int)=some i:=fx (by rw[n_];exact hi)
  have g2:=mf (b:=cu b 64) (j:=i) (by rw[n_];exact hi)
  have hr:mA h (cu b 64) (i+1)=wR (gb iJ i) (gb (cu b 64) i) (mA h (cu b 64) i):=rfl;generalize mA h (cu b 64) i=s at hr ⊢;simp only[G',hl,cond_true,cn.i0,cn.i1,cn.i2,cn.i4,cn.i5,cn.i6,cn.i7,cn.g0,cn.g1,cn.g2,cn.g4,cn.g5,cn.g6,cn.g7,i1,g1,i2,g2,Option.bind_some,t2,t6,t11,t13,t22,t25,gl,wp (i:=i) (by omega),hr]
  have e:∀x y:Int,be ([s.a,s.a,s.b,s.c,s.d,s.e,s.f,s.g]:List Int).length 4=some 4/\([s.a,s.a,s.b,s.c,s.d,s.e,s.f,s.g]:List Int)[4]? =some s.d/\
   be (([s.a,s.a,s.b,s.c,s.d,s.e,s.f,s.g]:List Int).set 4 x).length 0=some 0/\(([s.a,s.a,s.b,s.c,s.d,s.e,s.f,s.g]:List Int).set 4 x)[0]? =some s.a:=fun x y=>⟨rfl,rfl,rfl,rfl⟩
  simp only[(e 0 0).1,(e 0 0).2.1,(e _ 0).2.2.1,(e _ 0).2.2.2,Option.bind_some,wR,DM,M9,M_,M8,Mb,alF];rfl
 have aF:FV ((h.list,((),((),((0:Int),())))),((mA h (cu b 64) 64).list,(([]:List Int),())))=some (((),()),((w8 h b).list,())):=by
  unfold w8;generalize mA h (cu b 64) 64=s;refine fK (g:=Q1) (fun i=>((h.list,((),((),((i:Int),())))),(s.list,((Do h s).list.take i,())))) 8 (fun i hi=>?_) rfl 8 0 rfl
  have:i=0\/i=1\/i=2\/i=3\/i=4\/i=5\/i=6\/i=7:=by omega
  rcases this with rfl|rfl|rfl|rfl|rfl|rfl|rfl|rfl<;>rfl
 simp only[f257,l1,bT,hc,Option.bind_some,aE,aF]
noncomputable abbrev avb:a_:=[(171,_A)]
theorem t':aR O (aX ad avb):=aV ⟨z171,⟨⟩⟩
abbrev yG:Shape:=⟨[aL 1 .u8,eG 2 2 .u32,eG 4 4 .u32,eG 5 5 .u32,ag 6,ag 27,aL 36 .u8,ag 37,ag 38],[(2,.row .u32,.same),(4,.row .u32,.same),(5,.row .u32,.same)],208⟩
abbrev Fc:List aP:=[(.exit 2,⟨[aL 1 .u8,eG 2 2 .u32,eG 4 4 .u32,eG 5 5 .u32,ag 27],[(2,.row .u32,.same),(4,.row .u32,.same),(5,.row .u32,.same)],208⟩)]
noncomputable def qq(y:yG.J):bG yG Fc:=
 bif(decide (y.1.2.2.2.2.2.2.2.2.1<y.1.2.2.2.2.2.2.2.1)) then
(aO y.1.2.2.2.2.2.2.1 y.1.2.2.2.2.2.2.2.2.1).bind fun a=>
((long 64 y.2.2.2.1).bind fun q=>be q.length y.1.2.2.2.2.1).bind fun b=>
(y.2.2.2.1[b]?).bind fun c=>
(lL .u32 c (8:Int)).bind fun d=>
((long 64 y.2.2.2.1).bind fun q=>be q.length y.1.2.2.2.2.1).bind fun e=>
((y.2.2.2.1[e]?).bind fun q=>some (h6 .u32 d (IntKind.u32.wrap a))).bind fun f=>
 some (.inl ((y.1.1,(),(),(),y.1.2.2.2.2.1,y.1.2.2.2.2.2.1,y.1.2.2.2.2.2.2.1,y.1.2.2.2.2.2.2.2.1,(IntKind.i64.wrap (y.1.2.2.2.2.2.2.2.2.1+(1:Int))),()),y.2.1,y.2.2.1,(y.2.2.2.1.set e f),()))
else
 some (.inr ((y.1.1,(),(),(),y.1.2.2.2.2.2.1,()),y.2.1,y.2.2.1,y.2.2.2.1,()))
noncomputable def Fg:yG.J->Option (aC Fc):=bu qq
theorem agS:aT O (an (c4 (an (codeOf Tryz.f121) 1 58)) 116 14950) (aU yG Fc Fg):=bI t' (by kernel_rfl) ae fun y=>by kernel_rfl
abbrev AP:Shape:=⟨[aL 1 .u8,eG 2 2 .u32,eG 4 4 .u32,eG 5 5 .u32,ag 27],[(2,.row .u32,.same),(4,.row .u32,.same),(5,.row .u32,.same)],208⟩
abbrev H3:List aP:=[(.exit 0,⟨[eG 2 2 .u32,eG 4 4 .u32,eG 5 5 .u32],[(2,.row .u32,.same),(4,.row .u32,.same),(5,.row .u32,.same)],208⟩)]
noncomputable def I1(y:AP.J):bG AP H3:=
 bif(decide (y.1.2.2.2.2.1<(16:Int))) then
(bm y.1.1 (IntKind.i64.wrap ((4:Int)*y.1.2.2.2.2.1)) (IntKind.i64.wrap ((IntKind.i64.wrap ((4:Int)*y.1.2.2.2.2.1))+(4:Int)))).bind fun a=>
(Fg ((y.1.1,(),(),(),y.1.2.2.2.2.1,y.1.2.2.2.2.1,a,(a.length:Int),(0:Int),()),y.2.1,y.2.2.1,y.2.2.2.1,())).bind fun b=>
 some (.inl ((b.1.1,(),(),(),(IntKind.i64.wrap (b.1.2.2.2.2.1+(1:Int))),()),b.2.1,b.2.2.1,b.2.2.2.1,()))
else
 some (.inr (((),(),(),()),y.2.1,y.2.2.1,y.2.2.2.1,()))
noncomputable def IG:AP.J->Option (aC H3):=bu I1
theorem amT:aT O (an (codeOf Tryz.f121) 1 58) (aU AP H3 IG):=bI t' (by kernel_rfl) (a8 agS ae) fun y=>by kernel_rfl
abbrev zG:Shape:=⟨[eG 2 2 .u32,eG 4 4 .u32,eG 5 5 .u32,ag 9],[(2,.row .u32,.same),(4,.row .u32,.same),(5,.row .u32,.same)],208⟩
abbrev GA:List aP:=[(.exit 4,⟨[eG 2 2 .u32,eG 4 4 .u32,eG 5 5 .u32],[(2,.row .u32,.same),(4,.row .u32,.same),(5,.row .u32,.same)],208⟩)]
noncomputable def Hc(y:zG.J):bG zG GA:=
 bif(decide (y.1.2.2.2.1<(64:Int))) then
((long 64 y.2.2.2.1).bind fun q=>be q.length (IntKind.i64.wrap (y.1.2.2.2.1-(15:Int)))).bind fun a=>
(y.2.2.2.1[a]?).bind fun b=>
(f171 ((b,(7:Int),()),())).bind fun c=>
((long 64 y.2.2.2.1).bind fun q=>be q.length (IntKind.i64.wrap (y.1.2.2.2.1-(15:Int)))).bind fun d=>
(y.2.2.2.1[d]?).bind fun e=>
(f171 ((e,(18:Int),()),())).bind fun f=>
((long 64 y.2.2.2.1).bind fun q=>be q.length (IntKind.i64.wrap (y.1.2.2.2.1-(15:Int)))).bind fun g=>
(y.2.2.2.1[g]?).bind fun h=>
(fk .u32 h (3:Int)).bind fun i=>
((long 64 y.2.2.2.1).bind fun q=>be q.length (IntKind.i64.wrap (y.1.2.2.2.1-(2:Int)))).bind fun j=>
(y.2.2.2.1[j]?).bind fun k=>
(f171 ((k,(17:Int),()),())).bind fun l=>
((long 64 y.2.2.2.1).bind fun q=>be q.length (IntKind.i64.wrap (y.1.2.2.2.1-(2:Int)))).bind fun m=>
(y.2.2.2.1[m]?).bind fun n=>
(f171 ((n,(19:Int),()),())).bind fun D=>
((long 64 y.2.2.2.1).bind fun q=>be q.length (IntKind.i64.wrap (y.1.2.2.2.1-(2:Int)))).bind fun p=>
(y.2.2.2.1[p]?).bind fun r=>
(fk .u32 r (10:Int)).bind fun s=>
((long 64 y.2.2.2.1).bind fun q=>be q.length (IntKind.i64.wrap (y.1.2.2.2.1-(16:Int)))).bind fun t=>
(y.2.2.2.1[t]?).bind fun u=>
((long 64 y.2.2.2.1).bind fun q=>be q.length (IntKind.i64.wrap (y.1.2.2.2.1-(7:Int)))).bind fun v=>
(y.2.2.2.1[v]?).bind fun w=>
((long 64 y.2.2.2.1).bind fun q=>be q.length y.1.2.2.2.1).bind fun x=>
((y.2.2.2.1[x]?).bind fun q=>some (IntKind.u32.wrap ((IntKind.u32.wrap ((IntKind.u32.wrap (u+(dl .u32 (dl .u32 c.1.1 f.1.1) i)))+w))+(dl .u32 (dl .u32 l.1.1 D.1.1) s)))).bind fun z=>
 some (.inl (((),(),(),(IntKind.i64.wrap (y.1.2.2.2.1+(1:Int))),()),y.2.1,y.2.2.1,(y.2.2.2.1.set x z),()))
else
 some (.inr (((),(),(),()),y.2.1,y.2.2.1,y.2.2.2.1,()))
noncomputable def G1:zG.J->Option (aC GA):=bu Hc
theorem akE:aT O (an (codeOf Tryz.f121) 1 122) (aU zG GA G1):=bI t' (by kernel_rfl) ae fun y=>by kernel_rfl
abbrev y5:Shape:=⟨[eG 2 2 .u32,eG 4 4 .u32,eG 5 5 .u32,(12,.am (.d (.int .u32))),(13,.am (.d (.int .u32))),(14,.am (.d (.int .u32))),(15,.am (.d (.int .u32))),(16,.am (.d (.int .u32))),(17,.am (.d (.int .u32))),(18,.am (.d (.int .u32))),(19,.am (.d (.int .u32))),ag 122],[(2,.row .u32,.same),(4,.row .u32,.same),(5,.row .u32,.same)],208⟩
abbrev FF:List aP:=[(.exit 6,⟨[eG 2 2 .u32,eG 4 4 .u32,(12,.am (.d (.int .u32))),(13,.am (.d (.int .u32))),(14,.am (.d (.int .u32))),(15,.am (.d (.int .u32))),(16,.am (.d (.int .u32))),(17,.am (.d (.int .u32))),(18,.am (.d (.int .u32))),(19,.am (.d (.int .u32)))],[(2,.row .u32,.same),(4,.row .u32,.same)],208⟩)]
noncomputable def zh(y:y5.J):bG y5 FF:=
 bif(decide (y.1.2.2.2.2.2.2.2.2.2.2.2.1<(64:Int))) then
(f171 ((y.1.2.2.2.2.2.2.2.1,(6:Int),()),())).bind fun a=>
(f171 ((y.1.2.2.2.2.2.2.2.1,(11:Int),()),())).bind fun b=>
(f171 ((y.1.2.2.2.2.2.2.2.1,(25:Int),()),())).bind fun c=>
(aO iJ y.1.2.2.2.2.2.2.2.2.2.2.2.1).bind fun d=>
((long 64 y.2.2.2.1).bind fun q=>be q.length y.1.2.2.2.2.2.2.2.2.2.2.2.1).bind fun e=>
(y.2.2.2.1[e]?).bind fun f=>
(f171 ((y.1.2.2.2.1,(2:Int),()),())).bind fun g=>
(f171 ((y.1.2.2.2.1,(13:Int),()),())).bind fun h=>
(f171 ((y.1.2.2.2.1,(22:Int),()),())).bind fun i=>
 some (.inl (((),(),(),(IntKind.u32.wrap ((IntKind.u32.wrap ((IntKind.u32.wrap ((IntKind.u32.wrap ((IntKind.u32.wrap (y.1.2.2.2.2.2.2.2.2.2.2.1+(dl .u32 (dl .u32 a.1.1 b.1.1) c.1.1)))+(dl .u32 (eF .u32 y.1.2.2.2.2.2.2.2.1 y.1.2.2.2.2.2.2.2.2.1) (eF .u32 (dl .u32 4294967295 y.1.2.2.2.2.2.2.2.1) y.1.2.2.2.2.2.2.2.2.2.1))))+d))+f))+(IntKind.u32.wrap ((dl .u32 (dl .u32 g.1.1 h.1.1) i.1.1)+(dl .u32 (dl .u32 (eF .u32 y.1.2.2.2.1 y.1.2.2.2.2.1) (eF .u32 y.1.2.2.2.1 y.1.2.2.2.2.2.1)) (eF .u32 y.1.2.2.2.2.1 y.1.2.2.2.2.2.1)))))),y.1.2.2.2.1,y.1.2.2.2.2.1,y.1.2.2.2.2.2.1,(IntKind.u32.wrap (y.1.2.2.2.2.2.2.1+(IntKind.u32.wrap ((IntKind.u32.wrap ((IntKind.u32.wrap ((IntKind.u32.wrap (y.1.2.2.2.2.2.2.2.2.2.2.1+(dl .u32 (dl .u32 a.1.1 b.1.1) c.1.1)))+(dl .u32 (eF .u32 y.1.2.2.2.2.2.2.2.1 y.1.2.2.2.2.2.2.2.2.1) (eF .u32 (dl .u32 4294967295 y.1.2.2.2.2.2.2.2.1) y.1.2.2.2.2.2.2.2.2.2.1))))+d))+f)))),y.1.2.2.2.2.2.2.2.1,y.1.2.2.2.2.2.2.2.2.1,y.1.2.2.2.2.2.2.2.2.2.1,(IntKind.i64.wrap (y.1.2.2.2.2.2.2.2.2.2.2.2.1+(1:Int))),()),y.2.1,y.2.2.1,y.2.2.2.1,()))
else
 some (.inr (((),(),y.1.2.2.2.1,y.1.2.2.2.2.1,y.1.2.2.2.2.2.1,y.1.2.2.2.2.2.2.1,y.1.2.2.2.2.2.2.2.1,y.1.2.2.2.2.2.2.2.2.1,y.1.2.2.2.2.2.2.2.2.2.1,y.1.2.2.2.2.2.2.2.2.2.2.1,()),y.2.1,y.2.2.1,()))
noncomputable def FZ:y5.J->Option (aC FF):=bu zh
theorem aiD:aT O (an (codeOf Tryz.f121) 1 1018) (aU y5 FF FZ):=bI t' (by kernel_rfl) ae fun y=>by kernel_rfl
abbrev y4:Shape:=⟨[eG 2 2 .u32,eG 4 4 .u32,b_ 195 [.d (.int .u32),.d (.int .u32),.d (.int .u32),.d (.int .u32),.d (.int .u32),.d (.int .u32),.d (.int .u32),.d (.int .u32)],ag 196],[(2,.row .u32,.same),(4,.row .u32,.same)],208⟩
abbrev FE:List aP:=[(.exit 8,⟨[eG 2 2 .u32,eG 4 4 .u32],[(2,.row .u32,.same),(4,.row .u32,.same)],208⟩)]
noncomputable def Q2(y:y4.J):bG y4 FE:=
 bif(decide (y.1.2.2.2.1<(8:Int))) then
(aO ([y.1.2.2.1.1,y.1.2.2.1.2.1,y.1.2.2.1.2.2.1,y.1.2.2.1.2.2.2.1,y.1.2.2.1.2.2.2.2.1,y.1.2.2.1.2.2.2.2.2.1,y.1.2.2.1.2.2.2.2.2.2.1,y.1.2.2.1.2.2.2.2.2.2.2.1]:List Int) y.1.2.2.2.1).bind fun a=>
((long 8 y.2.1).bind fun q=>be q.length y.1.2.2.2.1).bind fun b=>
(y.2.1[b]?).bind fun c=>
((long 8 y.2.1).bind fun q=>be q.length y.1.2.2.2.1).bind fun d=>
((y.2.1[d]?).bind fun q=>some (IntKind.u32.wrap (c+a))).bind fun e=>
 some (.inl (((),(),(y.1.2.2.1.1,y.1.2.2.1.2.1,y.1.2.2.1.2.2.1,y.1.2.2.1.2.2.2.1,y.1.2.2.1.2.2.2.2.1,y.1.2.2.1.2.2.2.2.2.1,y.1.2.2.1.2.2.2.2.2.2.1,y.1.2.2.1.2.2.2.2.2.2.2.1,()),(IntKind.i64.wrap (y.1.2.2.2.1+(1:Int))),()),(y.2.1.set d e),y.2.2.1,()))
else
 some (.inr (((),(),()),y.2.1,y.2.2.1,()))
noncomputable def FY:y4.J->Option (aC FE):=bu Q2
theorem aiC:aT O (an (codeOf Tryz.f121) 1 2042) (aU y4 FE FY):=bI t' (by kernel_rfl) ae fun y=>by kernel_rfl
abbrev i121:Shape:=⟨[b_ 0 [.d (.int .u32),.d (.int .u32),.d (.int .u32),.d (.int .u32),.d (.int .u32),.d (.int .u32),.d (.int .u32),.d (.int .u32)],aL 1 .u8],[],208⟩
abbrev YY:Shape:=⟨[eG 4 4 .u32],[(4,.rb .u32 8,.same)],208⟩
noncomputable def f121(a:i121.J):Option YY.J:=
(IG ((a.1.2.1,(),(),(),(0:Int),()),([a.1.1.1,a.1.1.2.1,a.1.1.2.2.1,a.1.1.2.2.2.1,a.1.1.2.2.2.2.1,a.1.1.2.2.2.2.2.1,a.1.1.2.2.2.2.2.2.1,a.1.1.2.2.2.2.2.2.2.1]:List Int),(List.replicate 8 (0:Int)),(List.replicate 64 (0:Int)),())).bind fun b=>
(G1 (((),(),(),(16:Int),()),b.2.1,b.2.2.1,b.2.2.2.1,())).bind fun c=>
((long 8 c.2.1).bind fun q=>be q.length (0:Int)).bind fun d=>
(c.2.1[d]?).bind fun e=>
((long 8 c.2.1).bind fun q=>be q.length (1:Int)).bind fun f=>
(c.2.1[f]?).bind fun g=>
((long 8 c.2.1).bind fun q=>be q.length (2:Int)).bind fun h=>
(c.2.1[h]?).bind fun i=>
((long 8 c.2.1).bind fun q=>be q.length (3:Int)).bind fun j=>
(c.2.1[j]?).bind fun k=>
((long 8 c.2.1).bind fun q=>be q.length (4:Int)).bind fun l=>
(c.2.1[l]?).bind fun m=>
((long 8 c.2.1).bind fun q=>be q.length (5:Int)).bind fun n=>
(c.2.1[n]?).bind fun D=>
((long 8 c.2.1).bind fun q=>be q.length (6:Int)).bind fun p=>
(c.2.1[p]?).bind fun r=>
((long 8 c.2.1).bind fun q=>be q.length (7:Int)).bind fun s=>
(c.2.1[s]?).bind fun t=>
(FZ (((),(),(),e,g,i,k,m,D,r,t,(0:Int),()),c.2.1,c.2.2.1,c.2.2.2.1,())).bind fun u=>
(FY (((),(),(u.1.2.2.1,u.1.2.2.2.1,u.1.2.2.2.2.1,u.1.2.2.2.2.2.1,u.1.2.2.2.2.2.2.1,u.1.2.2.2.2.2.2.2.1,u.1.2.2.2.2.2.2.2.2.1,u.1.2.2.2.2.2.2.2.2.2.1,()),(0:Int),()),u.2.1,u.2.2.1,())).bind fun v=>
(long 8 v.2.1).bind fun w=>
(long 8 v.2.2.1).bind fun x=>
((long 8 ([(w.getD 0 (0:Int)),(w.getD 1 (0:Int)),(w.getD 2 (0:Int)),(w.getD 3 (0:Int)),(w.getD 4 (0:Int)),(w.getD 5 (0:Int)),(w.getD 6 (0:Int)),(w.getD 7 (0:Int))]:List Int)).bind fun q=>some (q,())).bind fun z=>some (((),()),z)
noncomputable def _2:aD:=aH ad Tryz.f121 i121 YY [] f121
theorem asu:aB O 121 _2:=aK t' Tryz.func121 (by kernel_rfl) (a8 amT (a8 akE (a8 aiD (a8 aiC ae)))) (fun y=>by kernel_rfl) fun a=>by kernel_rfl
def gj(ws:List Int)(v:Int):List Int:=ws++v::List.replicate (63-ws.length) 0
def kz(ws:List Int):List Int:=ws++List.replicate (64-ws.length) 0
theorem WQ{ws:List Int}(h:ws.length<64):kz ws=gj ws 0:=by
 unfold kz gj;rw[show 64-ws.length=(63-ws.length)+1 by omega];rfl
theorem Wc{ws:List Int}(h:ws.length<64)(v:Int):gj ws v=kz (ws++[v]):=by
 unfold kz gj;rw[List.length_append,show 64-(ws.length+[v].length)=63-ws.length from by show 64-(ws.length+1)=_;omega,List.append_assoc]
 rfl
theorem Ue{ws:List Int}(h:ws.length<64)(v:Int):(gj ws v).length=64:=by unfold gj;simp;omega
theorem AY{aJ:Type}{n:Nat}{xs:List aJ}(h:xs.length=n):long n xs=some xs:=by unfold long;rw[if_pos h]
theorem Uf{ws:List Int}(h:ws.length<64)(v:Int){k:Nat}(hk:k<64):((long 64 (gj ws v)).bind fun q=>be q.length (k:Int))=some k:=by
 rw[AY (Ue h v)];exact fx (by rw[Ue h];exact hk)
theorem vY(ws:List Int)(v:Int):(gj ws v)[ws.length]? =some v:=by unfold gj;rw[List.getElem?_append_right (Nat.le_refl _)];simp
theorem Bz{ws:List Int}{v:Int}{k:Nat}(h:k<ws.length):(gj ws v)[k]? =some (gb ws k):=by
 unfold gj;rw[List.getElem?_append_left h];exact mf h
theorem vX(ws:List Int)(v u:Int):(gj ws v).set ws.length u=gj ws u:=by unfold gj;rw[List.set_append_right _ _ (Nat.le_refl _)];simp
theorem aqt(b:List Int):∀(ws:List Int) (i:Nat) (c0 c1 c2 c3:Int) (r0 r1:List Int),ws.length=i->i<64->
  Fg ((b,((),((),((),((i:Int),((i:Int),(([c0,c1,c2,c3]:List Int),((([c0,c1,c2,c3]:List Int).length:Int),((0:Int),()))))))))),(r0,(r1,(gj ws 0,()))))=
  some ((b,((),((),((),((i:Int),()))))),(r0,(r1,(gj ws (gY (gY (gY (gY 0 c0) c1) c2) c3),())))):=by
 intro ws i c0 c1 c2 c3 r0 r1 hw hi;subst hw;refine fK (g:=qq) (fun j=>((b,((),((),((),((ws.length:Int),((ws.length:Int),(([c0,c1,c2,c3]:List Int),((([c0,c1,c2,c3]:List Int).length:Int),((j:Int),()))))))))),
  (r0,(r1,(gj ws (match j with|0=>0|1=>gY 0 c0|2=>gY (gY 0 c0) c1|3=>gY (gY (gY 0 c0) c1) c2|_=>gY (gY (gY (gY 0 c0) c1) c2) c3),()))))) 4 (fun j hj=>?_) ?_ 4 0 rfl
 ·have hx:∀v:Int,((long 64 (gj ws v)).bind fun q=>be q.length (ws.length:Int))=some ws.length:=fun v=>Uf hi v hi
  have:j=0\/j=1\/j=2\/j=3:=by omega
  have n0:IntKind.i64.wrap (((0:Nat):Int)+1)=((0+1:Nat):Int):=rfl;have n1:IntKind.i64.wrap (((1:Nat):Int)+1)=((1+1:Nat):Int):=rfl;have n2:IntKind.i64.wrap (((2:Nat):Int)+1)=((2+1:Nat):Int):=rfl;have iO:IntKind.i64.wrap (((3:Nat):Int)+1)=((3+1:Nat):Int):=rfl;have c:∀k:Nat,k<4->decide (((k:Nat):Int)<(([c0,c1,c2,c3]:List Int).length:Int))=true:=fun k hk=>by simp;omega
  have fh:aO ([c0,c1,c2,c3]:List Int) ((0:Nat):Int)=some c0:=rfl;have eh:aO ([c0,c1,c2,c3]:List Int) ((1:Nat):Int)=some c1:=rfl;have fT:aO ([c0,c1,c2,c3]:List Int) ((2:Nat):Int)=some c2:=rfl;have jE:aO ([c0,c1,c2,c3]:List Int) ((3:Nat):Int)=some c3:=rfl;rcases this with rfl|rfl|rfl|rfl
  ·simp only[qq,c 0 (by omega),cond_true,hx,vY,vX,Option.bind_some,wQ,n0,fh];rfl
  ·simp only[qq,c 1 (by omega),cond_true,hx,vY,vX,Option.bind_some,wQ,n1,eh];rfl
  ·simp only[qq,c 2 (by omega),cond_true,hx,vY,vX,Option.bind_some,wQ,n2,fT];rfl
  ·simp only[qq,c 3 (by omega),cond_true,hx,vY,vX,Option.bind_some,wQ,iO,jE];rfl
 ·have:decide (((4:Nat):Int)<(([c0,c1,c2,c3]:List Int).length:Int))=false:=rfl;simp only[qq,this,cond_false]
theorem aqx(b:List Int)(hb:rX b):∀r0 r1:List Int,IG ((b,((),((),((),((0:Int),()))))),(r0,(r1,(List.replicate 64 (0:Int),()))))=some (((),((),((),()))),(r0,(r1,(kz (cu b 16),())))):=by
 intro r0 r1;refine fK (g:=I1) (fun i=>((b,((),((),((),((i:Int),()))))),(r0,(r1,(kz (cu b i),()))))) 16 (fun i hi=>?_) rfl 16 0 rfl
 have hl:decide ((i:Int)<16)=true:=by simp;omega
 have hlen:=n_ b i;have Z:decide (i<16)=true:=by simpa using hi
 have mR:IntKind.i64.wrap (((4*i:Nat):Int)+4)=((4*i+4:Nat):Int):=by have:=k9 (i:=i) (by omega) 4 (by omega);rwa[ud (by omega)] at this
 have hs:bm b ((4*i:Nat):Int) ((4*i+4:Nat):Int)=some [gb b (4*i),gb b (4*i+1),gb b (4*i+2),gb b (4*i+3)]:=by
  rw[qC (by omega) (by rw[hb.1];omega)]
  congr 1
  apply List.ext_getElem?;intro j;rw[List.getElem?_drop,List.getElem?_take];by_cases hj:j<4
  ·rw[if_pos (by omega),mf (by rw[hb.1];omega)]
   have:j=0\/j=1\/j=2\/j=3:=by omega
   rcases this with rfl|rfl|rfl|rfl<;>rfl
  ·rw[if_neg (by omega)]
   rw[List.getElem?_eq_none (by simp;omega)]
 have hw:=alH (hb.qb (j:=4*i) (by omega)) (hb.qb (j:=4*i+1) (by omega)) (hb.qb (j:=4*i+2) (by omega)) (hb.qb (j:=4*i+3) (by omega))
 have D9:=aqt b (cu b i) i (gb b (4*i)) (gb b (4*i+1)) (gb b (4*i+2)) (gb b (4*i+3)) r0 r1 hlen (by omega)
 rw[hw] at D9;have hf:=WQ (ws:=cu b i) (by omega)
 have hn:kz (cu b (i+1))=gj (cu b i) (wd (gb b (4*i)) (gb b (4*i+1)) (gb b (4*i+2)) (gb b (4*i+3))):=by rw[Wc (by omega)];simp only[cu,Z,cond_true]
 simp only[I1,hl,cond_true,ud (i:=i) (by omega),mR,hs,Option.bind_some,hf,D9,hn,wp (i:=i) (by omega)]
theorem aqw(b:List Int):∀r0 r1:List Int,G1 (((),((),((),((16:Int),())))),(r0,(r1,(kz (cu b 16),()))))=some (((),((),((),()))),(r0,(r1,(kz (cu b 64),())))):=by
 have t2:=fun x=>hO x 2 (by simp[eR]);have t6:=fun x=>hO x 6 (by simp[eR]);have t11:=fun x=>hO x 11 (by simp[eR])
 have t13:=fun x=>hO x 13 (by simp[eR]);have t22:=fun x=>hO x 22 (by simp[eR]);have t25:=fun x=>hO x 25 (by simp[eR])
 have t7:=fun x=>hO x 7 (by simp[eR]);have t18:=fun x=>hO x 18 (by simp[eR]);have t17:=fun x=>hO x 17 (by simp[eR]);have t19:=fun x=>hO x 19 (by simp[eR])
 intro r0 r1;refine fK (g:=Hc) (fun i=>(((),((),((),(((16+i:Nat):Int),())))),(r0,(r1,(kz (cu b (16+i)),()))))) 48 (fun i hi=>?_) rfl 48 0 rfl
 have hl:decide (((16+i:Nat):Int)<64)=true:=by simp;omega
 have hlen:=n_ b (16+i);have Z:decide (16+i<16)=false:=by simp
 have hf:=WQ (ws:=cu b (16+i)) (by omega)
 have hs:kz (cu b (16+(i+1)))=gj (cu b (16+i)) (wU (cu b (16+i)) (16+i)):=by
  show kz (cu b ((16+i)+1))=_;rw[Wc (by omega)];simp only[cu,Z,cond_false]
 have ayJ:=qf (i:=16+i) (q:=15) 15 rfl (by omega) (by omega)
 have e2:=qf (i:=16+i) (q:=2) 2 rfl (by omega) (by omega)
 have ayI:=qf (i:=16+i) (q:=16) 16 rfl (by omega) (by omega)
 have qh:=qf (i:=16+i) (q:=7) 7 rfl (by omega) (by omega)
 have hx:∀k:Nat,k<64->((long 64 (gj (cu b (16+i)) 0)).bind fun q=>be q.length (k:Int))=some k:=fun k hk=>Uf (by omega) _ hk
 have g15:=Bz (ws:=cu b (16+i)) (v:=0) (k:=16+i-15) (by omega)
 have g2:=Bz (ws:=cu b (16+i)) (v:=0) (k:=16+i-2) (by omega)
 have g16:=Bz (ws:=cu b (16+i)) (v:=0) (k:=16+i-16) (by omega)
 have g7:=Bz (ws:=cu b (16+i)) (v:=0) (k:=16+i-7) (by omega)
 have lf:(gj (cu b (16+i)) 0)[16+i]? =some 0:=by have:=vY (cu b (16+i)) 0;rwa[hlen] at this
 have gs:∀u,(gj (cu b (16+i)) 0).set (16+i) u=gj (cu b (16+i)) u:=fun u=>by have:=vX (cu b (16+i)) 0 u;rwa[hlen] at this
 simp only[Hc,hl,cond_true,hf,ayJ,e2,ayI,qh,hx (16+i-15) (by omega),hx (16+i-2) (by omega),hx (16+i-16) (by omega),hx (16+i-7) (by omega),hx (16+i) (by omega),g15,g2,g16,g7,lf,gs,Option.bind_some,t7,t18,t17,t19,Xh,Wg,wp (i:=16+i) (by omega),hs,wU,L7,L6]
 rfl
theorem aqv(R:Nat->cn)(W:List Int)(hW:W.length=64)(hR:∀i,R (i+1)=wR (gb iJ i) (gb W i) (R i))(r0 r1:List Int):FZ (((),((),((),((R 0).a,((R 0).b,((R 0).c,((R 0).d,((R 0).e,((R 0).f,((R 0).g,((R 0).h,((0:Int),())))))))))))),(r0,(r1,(W,()))))=
  some (((),((),((R 64).a,((R 64).b,((R 64).c,((R 64).d,((R 64).e,((R 64).f,((R 64).g,((R 64).h,())))))))))),(r0,(r1,()))):=by
 have t2:=fun x=>hO x 2 (by simp[eR]);have t6:=fun x=>hO x 6 (by simp[eR]);have t11:=fun x=>hO x 11 (by simp[eR])
 have t13:=fun x=>hO x 13 (by simp[eR]);have t22:=fun x=>hO x 22 (by simp[eR]);have t25:=fun x=>hO x 25 (by simp[eR])
 have t7:=fun x=>hO x 7 (by simp[eR]);have t18:=fun x=>hO x 18 (by simp[eR]);have t17:=fun x=>hO x 17 (by simp[eR]);have t19:=fun x=>hO x 19 (by simp[eR])
 refine fK (g:=zh) (fun i=>(((),((),((),((R i).a,((R i).b,((R i).c,((R i).d,((R i).e,((R i).f,((R i).g,((R i).h,((i:Int),())))))))))))),(r0,(r1,(W,()))))) 64 (fun i hi=>?_) ?_ 64 0 rfl
 ·have hl:decide ((i:Int)<64)=true:=by simp;omega
  have g1:=wE (b:=iJ) (j:=i) (by rw[H_];exact hi)
  have hx:((long 64 W).bind fun q=>be q.length (i:Int))=some i:=by rw[AY hW];exact fx (by rw[hW];exact hi)
  have g2:=mf (b:=W) (j:=i) (by rw[hW];exact hi)
  rw[hR i];generalize R i=s;simp only[zh,hl,cond_true,g1,hx,g2,Option.bind_some,t2,t6,t11,t13,t22,t25,wp (i:=i) (by omega),wR,DM,M9,M_,M8,Mb]
 ·have:decide (((64:Nat):Int)<64)=false:=rfl;simp only[zh,this,cond_false]
theorem aqu(h:cn):∀(s:cn) (r1:List Int),FY (((),((),((s.a,(s.b,(s.c,(s.d,(s.e,(s.f,(s.g,(s.h,())))))))),((0:Int),())))),(h.list,(r1,())))=some (((),((),())),((Do h s).list,(r1,()))):=by
 intro s r1;refine fK (g:=Q2) (fun i=>(((),((),((s.a,(s.b,(s.c,(s.d,(s.e,(s.f,(s.g,(s.h,())))))))),((i:Int),())))),((Do h s).list.take i++h.list.drop i,(r1,())))) 8 (fun i hi=>?_) rfl 8 0 rfl
 have:i=0\/i=1\/i=2\/i=3\/i=4\/i=5\/i=6\/i=7:=by omega
 rcases this with rfl|rfl|rfl|rfl|rfl|rfl|rfl|rfl<;>(show _=_;kernel_rfl)
theorem agp(h:cn)(b:List Int)(hb:rX b):f121 (((h.a,(h.b,(h.c,(h.d,(h.e,(h.f,(h.g,(h.h,())))))))),(b,())),())=some (((),()),((w8 h b).list,())):=by
 have aE:=aqx b hb;have aF:=aqw b;have p2:kz (cu b 64)=cu b 64:=by unfold kz;rw[n_];simp
 have bJ:=aqv (mA h (cu b 64)) (cu b 64) (n_ b 64) (fun _=>rfl)
 have e1:(mA h (cu b 64) 0)=h:=rfl;rw[e1] at bJ;have cL:=aqu h;have dK:∀s:cn,s.list.length=8:=fun s=>rfl
 have hx:∀k:Nat,k<8->((long 8 h.list).bind fun q=>be q.length (k:Int))=some k:=fun k hk=>by rw[AY (dK h)];exact fx (by rw[dK];exact hk)
 have z0:=hx 0 (by omega);have fg:=hx 1 (by omega);have z2:=hx 2 (by omega);have z3:=hx 3 (by omega)
 have z4:=hx 4 (by omega);have z5:=hx 5 (by omega);have NB:=hx 6 (by omega);have Eu:=hx 7 (by omega)
 have eT:([h.a,h.b,h.c,h.d,h.e,h.f,h.g,h.h]:List Int)=h.list:=rfl;have dE:h.list[0]? =some h.a:=rfl;have cH:h.list[1]? =some h.b:=rfl;have dm:h.list[2]? =some h.c:=rfl;have dJ:h.list[3]? =some h.d:=rfl;have h_:h.list[4]? =some h.e:=rfl;have eQ:h.list[5]? =some h.f:=rfl;have e3:h.list[6]? =some h.g:=rfl;have NE:h.list[7]? =some h.h:=rfl;simp only[Int.cast_ofNat_Int,Int.natCast_zero] at z0 fg z2 z3 z4 z5 NB Eu;simp only[f121,eT,aE,aF,p2,Option.bind_some,z0,fg,z2,z3,z4,z5,NB,Eu,dE,cH,dm,dJ,h_,eQ,e3,NE,bJ,cL];rw[AY (dK _)];rfl
abbrev Al:Shape:=⟨[ak 0,ba 3 3000192],[a' 3000192 .u8 3 0],33⟩
abbrev HB:List aP:=[(.exit 0,⟨[ak 0,ba 3 3000192],[a' 3000192 .u8 3 0],33⟩)]
noncomputable def A7(y:Al.J):bG Al HB:=
(iK (y.2.1.length:Int) (64:Int)).bind fun a=>
 bif(a !=(56:Int)) then
(b9 1 y.2.1 ([(0:Int)]:List Int)).bind fun b=>
 some (.inl ((y.1.1,(),()),b,()))
else
 some (.inr ((y.1.1,(),()),y.2.1,()))
noncomputable def Ip:Al.J->Option (aC HB):=bu A7
theorem amf:aT O (an (codeOf Tryz.f256) 1 28) (aU Al HB Ip):=bI g0 (by kernel_rfl) ae fun y=>by kernel_rfl
abbrev zx:Shape:=⟨[ba 3 3000192,ag 4,ag 5],[a' 3000192 .u8 3 0],33⟩
abbrev Gt:List aP:=[(.exit 2,⟨[ba 3 3000192],[a' 3000192 .u8 3 0],33⟩)]
noncomputable def Ha(y:zx.J):bG zx Gt:=
 bif(decide (y.1.2.2.1>=(0:Int))) then
(fk .i64 y.1.2.1 (IntKind.i64.wrap ((8:Int)*y.1.2.2.1))).bind fun a=>
(b9 1 y.2.1 ([(IntKind.u8.wrap a)]:List Int)).bind fun b=>
 some (.inl (((),y.1.2.1,(IntKind.i64.wrap (y.1.2.2.1-(1:Int))),()),b,()))
else
 some (.inr (((),()),y.2.1,()))
noncomputable def GU:zx.J->Option (aC Gt):=bu Ha
theorem akm:aT O (an (codeOf Tryz.f256) 1 250) (aU zx Gt GU):=bI g0 (by kernel_rfl) ae fun y=>by kernel_rfl
abbrev i256:Shape:=⟨[ak 0],[],33⟩
abbrev XE:Shape:=⟨[ba 2 3000128],[a' 3000128 .u8 2 0],33⟩
noncomputable def f256(a:i256.J):Option XE.J:=
(if a.1.1.length<=maxLen then some () else none).bind fun b=>
(b9 1 (bytesOf a.1.1) ([(128:Int)]:List Int)).bind fun c=>
(Ip ((a.1.1,(),()),c,())).bind fun d=>
(GU (((),(IntKind.i64.wrap ((d.1.1.length:Int)*(8:Int))),(7:Int),()),d.2.1,())).bind fun e=>
 some (((),()),e.2.1,())
noncomputable def Z0:aD:=aH ad Tryz.f256 i256 XE [] f256
theorem arL:aB O 256 Z0:=aK g0 Tryz.func256 (by kernel_rfl) (a8 amf (a8 akm ae)) (fun y=>by kernel_rfl) fun a=>by kernel_rfl
noncomputable abbrev aug:a_:=[(256,Z0),(257,ZZ)]
theorem LK:aR O (aX ad aug):=aV ⟨arL,arK,⟨⟩⟩
abbrev zz:Shape:=⟨[ba 3 3000192,aL 4 .u8,ag 5],[a' 3000192 .u32 3 0],57⟩
abbrev Gv:List aP:=[(.exit 0,⟨[ba 3 3000192],[a' 3000192 .u32 3 0],57⟩)]
noncomputable def zX(y:zz.J):bG zz Gv:=
 bif(decide (y.1.2.2.1<(y.1.2.1.length:Int))) then
(bm y.1.2.1 y.1.2.2.1 (IntKind.i64.wrap (y.1.2.2.1+(64:Int)))).bind fun a=>
(f257 ((y.2.1,a,()),())).bind fun b=>
 some (.inl (((),y.1.2.1,(IntKind.i64.wrap (y.1.2.2.1+(64:Int))),()),b.2.1,()))
else
 some (.inr (((),()),y.2.1,()))
noncomputable def GW:zz.J->Option (aC Gv):=bu zX
theorem akt:aT O (an (codeOf Tryz.f220) 1 122) (aU zz Gv GW):=bI LK (by kernel_rfl) ae fun y=>by kernel_rfl
abbrev zy:Shape:=⟨[ba 3 3000192,ba 6 3000384,ag 7],[a' 3000192 .u32 3 0,a' 3000384 .u8 6 0],57⟩
abbrev Gu:List aP:=[(.exit 2,⟨[ba 6 3000384],[a' 3000384 .u8 6 0],57⟩)]
noncomputable def Sn(y:zy.J):bG zy Gu:=
 bif(decide (y.1.2.2.1<(8:Int))) then
(be y.2.1.length y.1.2.2.1).bind fun a=>
(y.2.1[a]?).bind fun b=>
(fk .u32 b (24:Int)).bind fun c=>
(be y.2.1.length y.1.2.2.1).bind fun d=>
(y.2.1[d]?).bind fun e=>
(fk .u32 e (16:Int)).bind fun f=>
(be y.2.1.length y.1.2.2.1).bind fun g=>
(y.2.1[g]?).bind fun h=>
(fk .u32 h (8:Int)).bind fun i=>
(be y.2.1.length y.1.2.2.1).bind fun j=>
(y.2.1[j]?).bind fun k=>
(b9 1 y.2.2.1 ([(IntKind.u8.wrap c),(IntKind.u8.wrap f),(IntKind.u8.wrap i),(IntKind.u8.wrap k)]:List Int)).bind fun l=>
 some (.inl (((),(),(IntKind.i64.wrap (y.1.2.2.1+(1:Int))),()),y.2.1,l,()))
else
 some (.inr (((),()),y.2.2.1,()))
noncomputable def GV:zy.J->Option (aC Gu):=bu Sn
theorem aks:aT O (an (codeOf Tryz.f220) 1 506) (aU zy Gu GV):=bI LK (by kernel_rfl) ae fun y=>by kernel_rfl
abbrev i220:Shape:=⟨[ak 0],[],57⟩
abbrev XR:Shape:=⟨[ak 2],[],57⟩
noncomputable def f220(a:i220.J):Option XR.J:=
(f256 ((a.1.1,()),())).bind fun b=>
(GW (((),b.2.1,(0:Int),()),([(1779033703:Int),(3144134277:Int),(1013904242:Int),(2773480762:Int),(1359893119:Int),(2600822924:Int),(528734635:Int),(1541459225:Int)]:List Int),())).bind fun c=>
(GV (((),(),(0:Int),()),c.2.1,([]:List Int),())).bind fun d=>
 some (((strOf d.2.1),()),())
noncomputable def Z':aD:=aH ad Tryz.f220 i220 XR [] f220
theorem arR:aB O 220 Z':=aK LK Tryz.func220 (by kernel_rfl) (a8 akt (a8 aks ae)) (fun y=>by kernel_rfl) fun a=>by kernel_rfl
def kw(n:Nat):Nat:=(120-n%64)%64
def kq(n:Int):List Int:=[IntKind.u8.wrap (n.fdiv (2^56)),IntKind.u8.wrap (n.fdiv (2^48)),IntKind.u8.wrap (n.fdiv (2^40)),IntKind.u8.wrap (n.fdiv (2^32)),IntKind.u8.wrap (n.fdiv (2^24)),IntKind.u8.wrap (n.fdiv (2^16)),IntKind.u8.wrap (n.fdiv (2^8)),IntKind.u8.wrap (n.fdiv (2^0))]
def js(s:B):List Int:=(bytesOf s++[128])++List.replicate (kw (s.length+1)) 0
def et(s:B):List Int:=js s++kq ((s.length:Int)*8)
theorem ji(s:B):(bytesOf s).length=s.length:=by simp[bytesOf]
theorem vW(n:Nat):kw n<64:=Nat.mod_lt _ (by decide)
theorem Hk(n:Nat):(n+kw n)%64=56:=by unfold kw;omega
theorem Sy(n j:Nat)(h:j<kw n):(n+j)%64≠56:=by unfold kw at h;omega
theorem GJ(s:B):(js s).length=s.length+1+kw (s.length+1):=by simp[js,ji];omega
theorem zL(s:B):(et s).length=s.length+1+kw (s.length+1)+8:=by simp[et,GJ,kq]
theorem aog(x:Int):kC (IntKind.u8.wrap x):=by rw[IntKind.wrap_u8];constructor<;>omega
theorem R7(s:B):∀x,x∈et s->kC x:=by
 intro x hx;rcases List.mem_append.1 hx with h|h
 ·rcases List.mem_append.1 h with h|h
  ·rcases List.mem_append.1 h with h|h
   ·obtain⟨b,_,rfl⟩:=List.mem_map.1 h;have:=b.toNat_lt;constructor<;>omega
   ·rw[List.mem_singleton.1 h];decide
  ·rw[(List.mem_replicate.1 h).2];decide
 ·simp only[kq,List.mem_cons,List.not_mem_nil,or_false] at h;rcases h with rfl|rfl|rfl|rfl|rfl|rfl|rfl|rfl<;>exact aog _
def rq(d:List Int)(k:Nat):List Int:=(d.take (64*k+64)).drop (64*k)
theorem T6{d:List Int}{k:Nat}(h:64*k+64<=d.length)(hb:∀x,x∈d->kC x):rX (rq d k):=
 ⟨by unfold rq;simp;omega,fun x hx=>hb x (List.mem_of_mem_take (List.mem_of_mem_drop hx))⟩
def yq:cn:=⟨1779033703,3144134277,1013904242,2773480762,1359893119,2600822924,528734635,1541459225⟩
def um(d:List Int):Nat->cn
 |0=>yq
 |k+1=>w8 (um d k) (rq d k)
def eI(s:B):cn:=um (et s) ((et s).length/64)
theorem Ic(s:B):64*((et s).length/64)=(et s).length:=by
 have:=Hk (s.length+1);rw[zL];omega
theorem CG(n:Nat):iK (n:Int) 64=some ((n%64:Nat):Int):=by
 rw[oj (by omega) (by omega)];simp
theorem Ss(n:Nat)(d:List Int):d++List.replicate n 0++[0]=d++List.replicate (n+1) 0:=by
 rw[List.append_assoc,<-List.replicate_succ']
theorem aqq{x:Int}{k:Nat}(h:k<=64):fk .i64 x (k:Int)=some (x.fdiv (2^k)):=by
 unfold fk;rw[if_neg (by omega),Int.toNat_natCast,show IntKind.i64.bits=64 from rfl,Nat.min_eq_left h]
theorem aok{x:Int}{k:Nat}(h:k<=64):fk .u64 x (k:Int)=some (x.fdiv (2^k)):=by
 unfold fk;rw[if_neg (by omega),Int.toNat_natCast,show IntKind.u64.bits=64 from rfl,Nat.min_eq_left h]
theorem QV(n:Int){i:Nat}(h:i<8):(kq n).take (i+1)=(kq n).take i++[IntKind.u8.wrap (n.fdiv (2^(8*(7-i))))]:=by
 have:i=0\/i=1\/i=2\/i=3\/i=4\/i=5\/i=6\/i=7:=by omega
 rcases this with rfl|rfl|rfl|rfl|rfl|rfl|rfl|rfl<;>rfl
abbrev qj(s:B):Prop:=s.length<=1073741824
theorem agt(s:B)(h:qj s):f256 ((s,()),())=some (((),()),(et s,())):=by
 have hm:(if s.length<=maxLen then some () else none)=some ():=if_pos (by unfold maxLen;omega)
 have ha:b9 1 (bytesOf s) ([128]:List Int)=some (bytesOf s++[128]):=di (by decide) (by unfold au;rw[ji];simp;omega)
 have aE:Ip ((s,((),())),(bytesOf s++[128],()))=some ((s,((),())),(js s,())):=by
  have hz:=vW (s.length+1);have rI:∀i:Nat,(bytesOf s++[128]++List.replicate i (0:Int)).length=s.length+1+i:=fun i=>by simp[ji];omega
  have:=fK (g:=A7) (fun i=>((s,((),())),(bytesOf s++[128]++List.replicate i (0:Int),()))) (kw (s.length+1)) (b:=((s,((),())),(js s,()))) (fun i hi=>?_) ?_ (kw (s.length+1)) 0 (by omega)
  ·rw[List.replicate_zero,List.append_nil] at this;exact this
  ·have hne:((((s.length+1+i)%64:Nat):Int) !=56)=true:=by have:=Sy (s.length+1) i hi;rw[bne_iff_ne];omega
   simp only[A7,rI,CG,Option.bind_some,hne,cond_true];rw[di (by decide) (by unfold au;rw[rI];simp;omega)]
   simp only[Option.bind_some,Ss]
  ·have hne:((((s.length+1+kw (s.length+1))%64:Nat):Int) !=56)=false:=by have:=Hk (s.length+1);rw[this];rfl
   simp only[A7,rI,CG,Option.bind_some,hne,cond_false];rfl
 have aF:∀n:Int,GU (((),(n,((7:Int),()))),(js s,()))=some (((),()),(js s++kq n,())):=by
  intro n;have:=fK (g:=Ha) (fun i=>(((),(n,((7-(i:Int)),()))),(js s++(kq n).take i,()))) 8 (b:=(((),()),(js s++kq n,()))) (fun i hi=>?_) rfl 8 0 rfl
  ·rw[show(7:Int)-((0:Nat):Int)=7 from rfl,List.take_zero,List.append_nil] at this;exact this
  ·have hl:decide ((7-(i:Int))>=0)=true:=by simp;omega
   have hw:IntKind.i64.wrap (8*(7-(i:Int)))=((8*(7-i):Nat):Int):=by rw[cT (by omega) (by omega)];omega
   have hs:IntKind.i64.wrap (7-(i:Int)-1)=7-((i+1:Nat):Int):=by rw[cT (by omega) (by omega)];omega
   simp only[Ha,hl,cond_true,hw,aqq (x:=n) (k:=8*(7-i)) (by omega),Option.bind_some,hs]
   rw[di (by decide) (by unfold au;simp[GJ,kq];have:=vW (s.length+1);omega)]
   simp only[Option.bind_some,List.append_assoc,QV n hi]
 have hn:IntKind.i64.wrap ((s.length:Int)*8)=(s.length:Int)*8:=cT (by omega) (by omega)
 simp only[f256,hm,ha,Option.bind_some,aE,hn,aF];rfl
theorem alM(s:B)(h:qj s):f220 ((s,()),())=some ((strOf ((eI s).list.flatMap fun w=>[IntKind.u8.wrap (w.fdiv (2^24)),IntKind.u8.wrap (w.fdiv (2^16)),IntKind.u8.wrap (w.fdiv (2^8)),IntKind.u8.wrap w]),()),()):=by
 have dK:=Ic s;have hlen:=zL s;have hz:=vW (s.length+1);have j9:=R7 s;have aE:GW (((),(et s,((0:Int),()))),(yq.list,()))=some (((),()),((eI s).list,())):=by
  refine fK (g:=zX) (fun k=>(((),(et s,(((64*k:Nat):Int),()))),((um (et s) k).list,()))) ((et s).length/64) (fun k hk=>?_) ?_ ((et s).length/64) 0 (by omega)
  ·have hk2:64*k+64<=(et s).length:=by omega
   have hl:decide (((64*k:Nat):Int)<((et s).length:Int))=true:=by simp;omega
   have hw:IntKind.i64.wrap (((64*k:Nat):Int)+64)=((64*k+64:Nat):Int):=by rw[cT (by omega) (by omega)];omega
   have hs:bm (et s) ((64*k:Nat):Int) ((64*k+64:Nat):Int)=some (rq (et s) k):=qC (by omega) hk2
   have hb:=ahG (um (et s) k) (rq (et s) k) (T6 hk2 j9);simp only[zX,hl,cond_true,hw,hs,Option.bind_some,hb];rfl
  ·have hl:decide (((64*((et s).length/64):Nat):Int)<((et s).length:Int))=false:=by simp;omega
   simp only[zX,hl,cond_false];rfl
 have aF:∀q:cn,GV (((),((),((0:Int),()))),(q.list,(([]:List Int),())))=some (((),()),((q.list.flatMap fun w=>[IntKind.u8.wrap (w.fdiv (2^24)),IntKind.u8.wrap (w.fdiv (2^16)),IntKind.u8.wrap (w.fdiv (2^8)),IntKind.u8.wrap w]),())):=by
  intro q;refine fK (g:=Sn) (fun i=>(((),((),((i:Int),()))),(q.list,((q.list.take i).flatMap fun w=>[IntKind.u8.wrap (w.fdiv (2^24)),IntKind.u8.wrap (w.fdiv (2^16)),IntKind.u8.wrap (w.fdiv (2^8)),IntKind.u8.wrap w],())))) 8 (fun i hi=>?_) rfl 8 0 rfl
  have:i=0\/i=1\/i=2\/i=3\/i=4\/i=5\/i=6\/i=7:=by omega
  rcases this with rfl|rfl|rfl|rfl|rfl|rfl|rfl|rfl<;>(show _=_;kernel_rfl)
 have l1:=agt s h;have eT:([1779033703,3144134277,1013904242,2773480762,1359893119,2600822924,528734635,1541459225]:List Int)=yq.list:=rfl;simp only[f220,l1,Option.bind_some,eT,aE,aF]
abbrev VA:Shape:=⟨[ay 0 500000 0,(1,.am (.d (.int .u8)))],[bp 37000001 .u8 500000 1,ax 500000 [.dz,.own 37000001]],17⟩
abbrev U7:Shape:=⟨[ay 0 500000 0,(4,.am (.Db))],[bp 37000001 .u8 500000 1,ax 500000 [.dz,.own 37000001]],17⟩
noncomputable def JY(a:VA.J):Option U7.J:=
(b9 1 a.2.1 ([a.1.2.1]:List Int)).bind fun b=>
 some (((),(),()),b,((),(),()),())
noncomputable def V2:aD:=aH ad Tryz.f122 VA U7 [0] JY
theorem an6:aB O 122 V2:=aK g0 Tryz.func122 (by kernel_rfl) ae (fun y=>by kernel_rfl) fun a=>by kernel_rfl
abbrev zA:Shape:=⟨[ak 0,ak 3,ba 4 3000256,ag 5],[a' 3000256 .u8 4 0],30⟩
abbrev Gw:List aP:=[(.exit 0,⟨[ba 4 3000256],[a' 3000256 .u8 4 0],30⟩)]
noncomputable def zY(y:zA.J):bG zA Gw:=
 bif(decide (y.1.2.2.2.1<(y.1.1.length:Int))) then
(aO y.1.1 y.1.2.2.2.1).bind fun a=>
(lM .u8 (a.toNat:Int) (16:Int)).bind fun b=>
(aO y.1.2.1 b).bind fun c=>
(aO y.1.1 y.1.2.2.2.1).bind fun d=>
(iK (d.toNat:Int) (16:Int)).bind fun e=>
(aO y.1.2.1 e).bind fun f=>
(b9 1 y.2.1 ([(c.toNat:Int),(f.toNat:Int)]:List Int)).bind fun g=>
 some (.inl ((y.1.1,y.1.2.1,(),(IntKind.i64.wrap (y.1.2.2.2.1+(1:Int))),()),g,()))
else
 some (.inr (((),()),y.2.1,()))
noncomputable def GX:zA.J->Option (aC Gw):=bu zY
theorem aku:aT O (an (codeOf Tryz.f219) 1 122) (aU zA Gw GX):=bI g0 (by kernel_rfl) ae fun y=>by kernel_rfl
abbrev i219:Shape:=⟨[ak 0],[],30⟩
abbrev XS:Shape:=⟨[ak 2],[],30⟩
noncomputable def f219(a:i219.J):Option XS.J:=
(GX ((a.1.1,([48,49,50,51,52,53,54,55,56,57,97,98,99,100,101,102]:B),(),(0:Int),()),([]:List Int),())).bind fun b=>
 some (((strOf b.2.1),()),())
noncomputable def _a:aD:=aH ad Tryz.f219 i219 XS [] f219
theorem arS:aB O 219 _a:=aK g0 Tryz.func219 (by kernel_rfl) (a8 aku ae) (fun y=>by kernel_rfl) fun a=>by kernel_rfl
noncomputable abbrev auE:a_:=[(219,_a),(220,Z')]
theorem avJ:aR O (aX ad auE):=aV ⟨arS,arR,⟨⟩⟩
abbrev i173:Shape:=⟨[ak 0],[],7⟩
abbrev Yn:Shape:=⟨[ak 2],[],7⟩
noncomputable def f173(a:i173.J):Option Yn.J:=
(f220 ((a.1.1,()),())).bind fun b=>
(f219 ((b.1.1,()),())).bind fun c=>
(bm c.1.1 (0:Int) (16:Int)).bind fun d=>
 some ((d,()),())
noncomputable def _y:aD:=aH ad Tryz.f173 i173 Yn [] f173
theorem z173:aB O 173 _y:=aK avJ Tryz.func173 (by kernel_rfl) ae (fun y=>by kernel_rfl) fun a=>by kernel_rfl
noncomputable abbrev azp:a_:=[(121,_2),(122,V2)]
theorem uL:aR O (aX ad azp):=aV ⟨asu,an6,⟨⟩⟩
abbrev BS:Shape:=⟨[ak 0,eG 3 3 .u32,ba 4 3000256],[(3,.row .u32,.same),a' 3000256 .u8 4 0],70⟩
abbrev Jj:List aP:=[(.exit 0,⟨[ak 0,eG 3 3 .u32,ba 4 3000256],[(3,.row .u32,.same),a' 3000256 .u8 4 0],70⟩)]
noncomputable def Ch(y:BS.J):bG BS Jj:=
(iK (y.2.2.1.length:Int) (64:Int)).bind fun a=>
 bif(a !=(56:Int)) then
(b9 1 y.2.2.1 ([(0:Int)]:List Int)).bind fun b=>
 some (.inl ((y.1.1,(),(),()),y.2.1,b,()))
else
 some (.inr ((y.1.1,(),(),()),y.2.1,y.2.2.1,()))
noncomputable def JI:BS.J->Option (aC Jj):=bu Ch
theorem aoF:aT O (an (codeOf Tryz.f69) 1 60) (aU BS Jj JI):=bI uL (by kernel_rfl) ae fun y=>by kernel_rfl
abbrev Ab:Shape:=⟨[eG 3 3 .u32,ba 4 3000256,(5,.am (.d (.int .u64))),ag 6],[(3,.row .u32,.same),a' 3000256 .u8 4 0],70⟩
abbrev Hp:List aP:=[(.exit 2,⟨[eG 3 3 .u32,ba 4 3000256],[(3,.row .u32,.same),a' 3000256 .u8 4 0],70⟩)]
noncomputable def IS(y:Ab.J):bG Ab Hp:=
 bif(decide (y.1.2.2.2.1>=(0:Int))) then
(fk .u64 y.1.2.2.1 y.1.2.2.2.1).bind fun a=>
(b9 1 y.2.2.1 ([(IntKind.u8.wrap a)]:List Int)).bind fun b=>
 some (.inl (((),(),y.1.2.2.1,(IntKind.i64.wrap (y.1.2.2.2.1-(8:Int))),()),y.2.1,b,()))
else
 some (.inr (((),(),()),y.2.1,y.2.2.1,()))
noncomputable def Ih:Ab.J->Option (aC Hp):=bu IS
theorem al1:aT O (an (codeOf Tryz.f69) 1 506) (aU Ab Hp Ih):=bI uL (by kernel_rfl) ae fun y=>by kernel_rfl
abbrev zr:Shape:=⟨[eG 3 3 .u32,aL 4 .u8,ag 7],[(3,.row .u32,.same)],70⟩
abbrev Gn:List aP:=[(.exit 4,⟨[eG 3 3 .u32],[(3,.row .u32,.same)],70⟩)]
noncomputable def zR(y:zr.J):bG zr Gn:=
 bif(decide (y.1.2.2.1<(y.1.2.1.length:Int))) then
(long 8 y.2.1).bind fun a=>
(bm y.1.2.1 y.1.2.2.1 (IntKind.i64.wrap (y.1.2.2.1+(64:Int)))).bind fun b=>
(f121 ((((a.getD 0 (0:Int)),(a.getD 1 (0:Int)),(a.getD 2 (0:Int)),(a.getD 3 (0:Int)),(a.getD 4 (0:Int)),(a.getD 5 (0:Int)),(a.getD 6 (0:Int)),(a.getD 7 (0:Int)),()),b,()),())).bind fun c=>
(long 8 y.2.1).bind fun d=>
 some (.inl (((),y.1.2.1,(IntKind.i64.wrap (y.1.2.2.1+(64:Int))),()),([((pad (t:=.u32) 8 c.2.1).getD 0 (0:Int)),((pad (t:=.u32) 8 c.2.1).getD 1 (0:Int)),((pad (t:=.u32) 8 c.2.1).getD 2 (0:Int)),((pad (t:=.u32) 8 c.2.1).getD 3 (0:Int)),((pad (t:=.u32) 8 c.2.1).getD 4 (0:Int)),((pad (t:=.u32) 8 c.2.1).getD 5 (0:Int)),((pad (t:=.u32) 8 c.2.1).getD 6 (0:Int)),((pad (t:=.u32) 8 c.2.1).getD 7 (0:Int))]:List Int),()))
else
 some (.inr (((),()),y.2.1,()))
noncomputable def GP:zr.J->Option (aC Gn):=bu zR
theorem ake:aT O (an (codeOf Tryz.f69) 1 1018) (aU zr Gn GP):=bI uL (by kernel_rfl) ae fun y=>by kernel_rfl
abbrev yw:Shape:=⟨[ay 8 8 0,(10,.am (.d (.int .u32))),ag 11,aL 52 .u32,ag 53,ag 54],[bp 5000513 .u8 8 1,ax 8 [.dz,.own 5000513]],70⟩
abbrev EZ:List aP:=[(.exit 8,⟨[ay 8 8 0,aL 52 .u32,ag 53,ag 54],[bp 5000513 .u8 8 1,ax 8 [.dz,.own 5000513]],70⟩)]
noncomputable def E6(y:yw.J):bG yw EZ:=
 bif(decide (y.1.2.2.1>=(0:Int))) then
(fk .u32 y.1.2.1 y.1.2.2.1).bind fun a=>
(aO ([48,49,50,51,52,53,54,55,56,57,97,98,99,100,101,102]:B) (eF .u32 a (15:Int))).bind fun b=>
(JY (((),(b.toNat:Int),()),y.2.1,((),(),()),())).bind fun c=>
 some (.inl (((),y.1.2.1,(IntKind.i64.wrap (y.1.2.2.1-(4:Int))),y.1.2.2.2.1,y.1.2.2.2.2.1,y.1.2.2.2.2.2.1,()),c.2.1,((),(),()),()))
else
 some (.inr (((),y.1.2.2.2.1,y.1.2.2.2.2.1,y.1.2.2.2.2.2.1,()),y.2.1,((),(),()),()))
noncomputable def E4:yw.J->Option (aC EZ):=bu E6
theorem afQ:aT O (an (c4 (an (codeOf Tryz.f69) 1 4090)) 8180 1047142) (aU yw EZ E4):=bI uL (by kernel_rfl) ae fun y=>by kernel_rfl
abbrev zq:Shape:=⟨[ay 8 8 0,aL 52 .u32,ag 53,ag 54],[bp 5000513 .u8 8 1,ax 8 [.dz,.own 5000513]],70⟩
abbrev Gm:List aP:=[(.exit 6,⟨[ay 8 8 0],[bp 5000513 .u8 8 1,ax 8 [.dz,.own 5000513]],70⟩)]
noncomputable def qD(y:zq.J):bG zq Gm:=
 bif(decide (y.1.2.2.2.1<y.1.2.2.1)) then
(aO y.1.2.1 y.1.2.2.2.1).bind fun a=>
(E4 (((),a,(28:Int),y.1.2.1,y.1.2.2.1,y.1.2.2.2.1,()),y.2.1,((),(),()),())).bind fun b=>
 some (.inl (((),b.1.2.1,b.1.2.2.1,(IntKind.i64.wrap (b.1.2.2.2.1+(1:Int))),()),b.2.1,((),(),()),()))
else
 some (.inr (((),()),y.2.1,((),(),()),()))
noncomputable def GO:zq.J->Option (aC Gm):=bu qD
theorem akd:aT O (an (codeOf Tryz.f69) 1 4090) (aU zq Gm GO):=bI uL (by kernel_rfl) (a8 afQ ae) fun y=>by kernel_rfl
abbrev i69:Shape:=⟨[ak 0],[],70⟩
abbrev abg:Shape:=⟨[ak 2],[],70⟩
noncomputable def f69(a:i69.J):Option abg.J:=
(long 8 (List.replicate 8 (0:Int))).bind fun b=>
(if a.1.1.length<=maxLen then some () else none).bind fun c=>
(b9 1 (bytesOf a.1.1) ([(128:Int)]:List Int)).bind fun d=>
(JI ((a.1.1,(),(),()),([(1779033703:Int),(3144134277:Int),(1013904242:Int),(2773480762:Int),(1359893119:Int),(2600822924:Int),(528734635:Int),(1541459225:Int)]:List Int),d,())).bind fun e=>
(Ih (((),(),(IntKind.u64.wrap ((IntKind.u64.wrap (e.1.1.length:Int))*(8:Int))),(56:Int),()),e.2.1,e.2.2.1,())).bind fun f=>
(GP (((),f.2.2.1,(0:Int),()),f.2.1,())).bind fun g=>
((long 8 g.2.1).bind fun q=>bm q (0:Int) (2:Int)).bind fun h=>
(GO (((),h,(h.length:Int),(0:Int),()),([]:List Int),((),(),()),())).bind fun i=>
 some (((strOf i.2.1),()),())
noncomputable def acO:aD:=aH ad Tryz.f69 i69 abg [] f69
theorem awb:aB O 69 acO:=aK uL Tryz.func69 (by kernel_rfl) (a8 aoF (a8 al1 (a8 ake (a8 akd ae)))) (fun y=>by kernel_rfl) fun a=>by kernel_rfl
def tX:B:=[48,49,50,51,52,53,54,55,56,57,97,98,99,100,101,102]
def jt(k:Nat):UInt8:=tX.getD k 48
theorem JL{k:Nat}(h:k<16):aO tX (k:Int)=some (jt k):=by
 rw[b5];unfold jt;rw[List.getD_eq_getElem?_getD,List.getElem?_eq_getElem (by exact h)];rfl
def iq(b:UInt8):B:=[jt (b.toNat/16),jt (b.toNat%16)]
def fQ(w:Int):B:=[jt (w.toNat/268435456%16),jt (w.toNat/16777216%16),jt (w.toNat/1048576%16),jt (w.toNat/65536%16),jt (w.toNat/4096%16),jt (w.toNat/256%16),jt (w.toNat/16%16),jt (w.toNat%16)]
def pI(s:B):B:=fQ (eI s).a++fQ (eI s).b
theorem u4(s:B):strOf (bytesOf s)=s:=by
 unfold strOf bytesOf;rw[List.map_map];refine List.map_id'' (fun b=>?_) s
 simp
theorem o8(s t:B):bytesOf (s++t)=bytesOf s++bytesOf t:=by unfold bytesOf;rw[List.map_append]
theorem afy(s:B)(h:qj s):f219 ((s,()),())=some ((s.flatMap iq,()),()):=by
 have aE:GX ((s,(tX,((),((0:Int),())))),(([]:List Int),()))=some (((),()),(bytesOf (s.flatMap iq),())):=by
  have hlen:∀t:B,(t.flatMap iq).length=2*t.length:=by
   intro t;induction t with
   |nil=>rfl
   |cons b r ih=>rw[List.flatMap_cons,List.length_append,ih];simp[iq];omega
  refine fK (g:=zY) (fun i=>((s,(tX,((),((i:Int),())))),(bytesOf ((s.take i).flatMap iq),()))) s.length (fun i hi=>?_) ?_ s.length 0 (by omega)
  ·obtain⟨b,hb⟩:∃b,s[i]? =some b:=⟨s[i],List.getElem?_eq_getElem hi⟩;have az:lM .u8 (b.toNat:Int) 16=some ((b.toNat/16:Nat):Int):=by
    have:=b.toNat_lt;unfold lM;rw[if_neg (by decide),Int.tdiv_eq_ediv_of_nonneg (by omega),IntKind.wrap_u8]
    congr 1;omega
   have hr:iK (b.toNat:Int) 16=some ((b.toNat%16:Nat):Int):=by rw[oj (by omega) (by omega)];simp
   have:=b.toNat_lt;have e1:=JL (k:=b.toNat/16) (by omega)
   have e2:=JL (k:=b.toNat%16) (by omega)
   have aq:s.take (i+1)=s.take i++[b]:=by rw[List.take_add_one,hb];rfl
   simp only[zY,cf hi,cond_true,b5,hb,Option.bind_some,az,hr,aq];simp only[<-b5,e1,e2,Option.bind_some];rw[di (by decide) (by unfold au;rw[ji,hlen];simp;omega),bX (by unfold au;omega)]
   simp only[Option.bind_some,List.flatMap_append,o8];rfl
  ·simp only[zY,dx,cond_false,List.take_length]
 have eT:([48,49,50,51,52,53,54,55,56,57,97,98,99,100,101,102]:B)=tX:=rfl;simp only[f219,eT,aE,Option.bind_some,u4]
abbrev rU(w:Int):Prop:=0<=w/\w<4294967296
theorem TQ{w:Int}(h:rU w):iq (UInt8.ofNat (IntKind.u8.wrap (w.fdiv (2^24))).toNat)++(iq (UInt8.ofNat (IntKind.u8.wrap (w.fdiv (2^16))).toNat)++(iq (UInt8.ofNat (IntKind.u8.wrap (w.fdiv (2^8))).toNat)++iq (UInt8.ofNat (IntKind.u8.wrap w).toNat)))=fQ w:=by
 obtain⟨n,rfl⟩:=Int.eq_ofNat_of_zero_le h.1;have hn:n<4294967296:=by have:=h.2;omega
 have e:∀m:Nat,(UInt8.ofNat (IntKind.u8.wrap (m:Int)).toNat).toNat=m%256:=fun m=>by
  rw[IntKind.wrap_u8,show((m:Int)%256).toNat=m%256 by omega];simp
 have f:∀k:Nat,((n:Int).fdiv (2^k))=((n/2^k:Nat):Int):=fun k=>by
  rw[Int.fdiv_eq_ediv_of_nonneg _ (by exact Int.le_of_lt (Int.pow_pos (by decide)))]
  simp
 rw[f,f,f];simp only[iq,fQ,e,List.cons_append,List.nil_append,Int.toNat_natCast];rw[show n/2^24%256/16=n/268435456%16 by omega,show n/2^24%256%16=n/16777216%16 by omega,show n/2^16%256/16=n/1048576%16 by omega,show n/2^16%256%16=n/65536%16 by omega,
  show n/2^8%256/16=n/4096%16 by omega,show n/2^8%256%16=n/256%16 by omega,show n%256/16=n/16%16 by omega,show n%256%16=n%16 by omega]
theorem Wd(x:Int):rU (IntKind.u32.wrap x):=by rw[IntKind.wrap_u32];constructor<;>omega
theorem ZB(s:B):rU (eI s).a/\rU (eI s).b:=by
 have h1:=Ic s;have h2:=zL s;unfold eI;generalize hk:(et s).length/64=k at h1;cases k with
 |zero=>omega
 |succ k=>exact⟨Wd _,Wd _⟩
theorem Sf(w:Int):(fQ w).length=8:=rfl
theorem zn(s:B):(pI s).length=16:=rfl
theorem aqn(s:B)(h:qj s):f173 ((s,()),())=some ((pI s,()),()):=by
 have aE:=alM s h;have hw:=ZB s;have aF:=afy (strOf ((eI s).list.flatMap fun w=>[IntKind.u8.wrap (w.fdiv (2^24)),IntKind.u8.wrap (w.fdiv (2^16)),IntKind.u8.wrap (w.fdiv (2^8)),IntKind.u8.wrap w])) (by unfold qj;simp[strOf,cn.list])
 have aq:∀q:cn,bm ((strOf (q.list.flatMap fun w=>[IntKind.u8.wrap (w.fdiv (2^24)),IntKind.u8.wrap (w.fdiv (2^16)),IntKind.u8.wrap (w.fdiv (2^8)),IntKind.u8.wrap w])).flatMap iq) 0 16=
   some ((iq (UInt8.ofNat (IntKind.u8.wrap (q.a.fdiv (2^24))).toNat)++(iq (UInt8.ofNat (IntKind.u8.wrap (q.a.fdiv (2^16))).toNat)++(iq (UInt8.ofNat (IntKind.u8.wrap (q.a.fdiv (2^8))).toNat)++iq (UInt8.ofNat (IntKind.u8.wrap q.a).toNat))))++
    (iq (UInt8.ofNat (IntKind.u8.wrap (q.b.fdiv (2^24))).toNat)++(iq (UInt8.ofNat (IntKind.u8.wrap (q.b.fdiv (2^16))).toNat)++(iq (UInt8.ofNat (IntKind.u8.wrap (q.b.fdiv (2^8))).toNat)++iq (UInt8.ofNat (IntKind.u8.wrap q.b).toNat))))):=fun q=>rfl
 simp only[f173,aE,aF,Option.bind_some,aq,TQ hw.1,TQ hw.2];rfl
theorem arf{m:Nat}(h:m<4294967296):eF .u32 (m:Int) 15=((m%16:Nat):Int):=by
 unfold eF;rw[BitVec.toNat_and,FP h,show(BitVec.ofInt IntKind.u32.bits 15).toNat=15 from rfl,show(15:Nat)=2^4-1 from rfl,Nat.and_two_pow_sub_one_eq_mod,pa (by omega) (by omega)]
theorem ak7(w:Int){i:Nat}(h:i<8):(fQ w)[i]? =some (jt (w.toNat/2^(28-4*i)%16)):=by
 have:i=0\/i=1\/i=2\/i=3\/i=4\/i=5\/i=6\/i=7:=by omega
 rcases this with rfl|rfl|rfl|rfl|rfl|rfl|rfl|rfl<;>simp[fQ]
theorem Se(w:Int)(hw:rU w)(r0:List Int)(hr:r0.length<=100)(p q u):E4 (((),(w,((28:Int),(p,(q,(u,())))))),(r0,(((),((),())),())))=some (((),(p,(q,(u,())))),(r0++bytesOf (fQ w),(((),((),())),()))):=by
 have:=fK (g:=E6) (fun i=>(((),(w,((28-4*(i:Int)),(p,(q,(u,())))))),(r0++bytesOf ((fQ w).take i),(((),((),())),())))) 8 (b:=(((),(p,(q,(u,())))),(r0++bytesOf (fQ w),(((),((),())),())))) (fun i hi=>?_) rfl 8 0 rfl
 ·rw[show(28:Int)-4*((0:Nat):Int)=28 from rfl,List.take_zero] at this
  have e:r0++bytesOf []=r0:=List.append_nil r0;rw[e] at this;exact this
 ·obtain⟨n,rfl⟩:=Int.eq_ofNat_of_zero_le hw.1;have hn:n<4294967296:=by have:=hw.2;omega
  have hl:decide ((28-4*(i:Int))>=0)=true:=by simp;omega
  have hs:fk .u32 (n:Int) (28-4*(i:Int))=some ((n/2^(28-4*i):Nat):Int):=by
   rw[show(28-4*(i:Int))=((28-4*i:Nat):Int) by omega]
   unfold fk;rw[if_neg (by omega),Int.toNat_natCast,show IntKind.u32.bits=32 from rfl,Nat.min_eq_left (by omega),Int.fdiv_eq_ediv_of_nonneg _ (by exact Int.le_of_lt (Int.pow_pos (by decide)))]
   simp
  have hlt:n/2^(28-4*i)<4294967296:=Nat.lt_of_le_of_lt (Nat.div_le_self _ _) hn;have ha:=arf hlt;have hx:=JL (k:=n/2^(28-4*i)%16) (Nat.mod_lt _ (by decide))
  have Z:IntKind.i64.wrap (28-4*(i:Int)-4)=28-4*((i+1:Nat):Int):=by rw[cT (by omega) (by omega)];omega
  have aq:(fQ (n:Int)).take (i+1)=(fQ (n:Int)).take i++[jt (n/2^(28-4*i)%16)]:=by
   rw[List.take_add_one,ak7 _ hi,Int.toNat_natCast];rfl
  have eT:([48,49,50,51,52,53,54,55,56,57,97,98,99,100,101,102]:B)=tX:=rfl;simp only[E6,hl,cond_true,hs,Option.bind_some,ha,eT,hx,JY,Z,aq,o8];rw[di (by decide) (by unfold au;simp[ji,Sf];omega)]
  simp only[Option.bind_some,List.append_assoc];rfl
theorem aof(s:B)(h:qj s):f69 ((s,()),())=some ((pI s,()),()):=by
 have dK:=Ic s;have hlen:=zL s;have hz:=vW (s.length+1);have j9:=R7 s;have hm:(if s.length<=maxLen then some () else none)=some ():=if_pos (by unfold maxLen;omega)
 have ha:b9 1 (bytesOf s) ([128]:List Int)=some (bytesOf s++[128]):=di (by decide) (by unfold au;rw[ji];simp;omega)
 have h8:long 8 (List.replicate 8 (0:Int))=some (List.replicate 8 (0:Int)):=rfl;have aE:∀r0:List Int,JI ((s,((),((),()))),(r0,(bytesOf s++[128],())))=some ((s,((),((),()))),(r0,(js s,()))):=by
  intro r0;have rI:∀i:Nat,(bytesOf s++[128]++List.replicate i (0:Int)).length=s.length+1+i:=fun i=>by simp[ji];omega
  have:=fK (g:=Ch) (fun i=>((s,((),((),()))),(r0,(bytesOf s++[128]++List.replicate i (0:Int),())))) (kw (s.length+1)) (b:=((s,((),((),()))),(r0,(js s,())))) (fun i hi=>?_) ?_ (kw (s.length+1)) 0 (by omega)
  ·rw[List.replicate_zero,List.append_nil] at this;exact this
  ·have hne:((((s.length+1+i)%64:Nat):Int) !=56)=true:=by have:=Sy (s.length+1) i hi;rw[bne_iff_ne];omega
   simp only[Ch,rI,CG,Option.bind_some,hne,cond_true];rw[di (by decide) (by unfold au;rw[rI];simp;omega)]
   simp only[Option.bind_some,Ss]
  ·have hne:((((s.length+1+kw (s.length+1))%64:Nat):Int) !=56)=false:=by have:=Hk (s.length+1);rw[this];rfl
   simp only[Ch,rI,CG,Option.bind_some,hne,cond_false];rfl
 have aF:∀(n:Int) (r0:List Int),Ih (((),((),(n,((56:Int),())))),(r0,(js s,())))=some (((),((),())),(r0,(js s++kq n,()))):=by
  intro n r0;have:=fK (g:=IS) (fun i=>(((),((),(n,((56-8*(i:Int)),())))),(r0,(js s++(kq n).take i,())))) 8 (b:=(((),((),())),(r0,(js s++kq n,())))) (fun i hi=>?_) rfl 8 0 rfl
  ·rw[show(56:Int)-8*((0:Nat):Int)=56 from rfl,List.take_zero,List.append_nil] at this;exact this
  ·have hl:decide ((56-8*(i:Int))>=0)=true:=by simp;omega
   have hw:(56-8*(i:Int))=((8*(7-i):Nat):Int):=by omega
   have hs:IntKind.i64.wrap (56-8*(i:Int)-8)=56-8*((i+1:Nat):Int):=by rw[cT (by omega) (by omega)];omega
   have hx:fk .u64 n (56-8*(i:Int))=some (n.fdiv (2^(8*(7-i)))):=by rw[hw];exact aok (by omega)
   simp only[IS,hl,cond_true,hx,Option.bind_some,hs];rw[di (by decide) (by unfold au;simp[GJ,kq];have:=vW (s.length+1);omega)]
   simp only[Option.bind_some,List.append_assoc,QV n hi]
 have hp:∀q:cn,long 8 q.list=some q.list:=fun q=>rfl
 have bJ:GP (((),(et s,((0:Int),()))),(yq.list,()))=some (((),()),((eI s).list,())):=by
  refine fK (g:=zR) (fun k=>(((),(et s,(((64*k:Nat):Int),()))),((um (et s) k).list,()))) ((et s).length/64) (fun k hk=>?_) ?_ ((et s).length/64) 0 (by omega)
  ·have hk2:64*k+64<=(et s).length:=by omega
   have hl:decide (((64*k:Nat):Int)<((et s).length:Int))=true:=by simp;omega
   have hw:IntKind.i64.wrap (((64*k:Nat):Int)+64)=((64*k+64:Nat):Int):=by rw[cT (by omega) (by omega)];omega
   have hs:bm (et s) ((64*k:Nat):Int) ((64*k+64:Nat):Int)=some (rq (et s) k):=qC (by omega) hk2
   have hb:=agp (um (et s) k) (rq (et s) k) (T6 hk2 j9);have az:∀q:cn,((q.list.getD 0 0,(q.list.getD 1 0,(q.list.getD 2 0,(q.list.getD 3 0,(q.list.getD 4 0,(q.list.getD 5 0,(q.list.getD 6 0,(q.list.getD 7 0,())))))))):Int×Int×Int×Int×Int×Int×Int×Int×Unit)=(q.a,(q.b,(q.c,(q.d,(q.e,(q.f,(q.g,(q.h,())))))))):=fun q=>rfl
   simp only[zR,hl,cond_true,hw,hs,Option.bind_some,hp,az,hb];rfl
  ·have hl:decide (((64*((et s).length/64):Nat):Int)<((et s).length:Int))=false:=by simp;omega
   simp only[zR,hl,cond_false];rfl
 have hw:=ZB s;have cL:∀a b:Int,rU a->rU b->GO (((),(([a,b]:List Int),((([a,b]:List Int).length:Int),((0:Int),())))),(([]:List Int),(((),((),())),())))=some (((),()),(bytesOf (fQ a++fQ b),(((),((),())),()))):=by
  intro a b ha hb;have e1:=Se a ha [] (by simp) ([a,b]:List Int) ((2:Int)) (0:Int)
  have e2:=Se b hb (bytesOf (fQ a)) (by rw[ji,Sf];decide) ([a,b]:List Int) ((2:Int)) (1:Int)
  have dE:aO ([a,b]:List Int) 0=some a:=rfl;have cH:aO ([a,b]:List Int) 1=some b:=rfl;have iz:qD (((),(([a,b]:List Int),((2:Int),((0:Int),())))),(([]:List Int),(((),((),())),())))=some (.inl (((),(([a,b]:List Int),((2:Int),((1:Int),())))),(bytesOf (fQ a),(((),((),())),())))):=by
   have:decide ((0:Int)<2)=true:=rfl;simp only[qD,this,cond_true,dE,Option.bind_some,e1];rfl
  have s1:qD (((),(([a,b]:List Int),((2:Int),((1:Int),())))),(bytesOf (fQ a),(((),((),())),())))=some (.inl (((),(([a,b]:List Int),((2:Int),((2:Int),())))),(bytesOf (fQ a++fQ b),(((),((),())),())))):=by
   have:decide ((1:Int)<2)=true:=rfl;simp only[qD,this,cond_true,cH,Option.bind_some,e2,o8];rfl
  have s2:qD (((),(([a,b]:List Int),((2:Int),((2:Int),())))),(bytesOf (fQ a++fQ b),(((),((),())),())))=some (.inr (((),()),(bytesOf (fQ a++fQ b),(((),((),())),())))):=by
   have:decide ((2:Int)<2)=false:=rfl;simp only[qD,this,cond_false]
  exact(dM iz).trans ((dM s1).trans (cp s2))
 have hn:IntKind.u64.wrap (IntKind.u64.wrap (s.length:Int)*8)=(s.length:Int)*8:=by rw[IntKind.wrap_u64,IntKind.wrap_u64];omega
 have eT:([1779033703,3144134277,1013904242,2773480762,1359893119,2600822924,528734635,1541459225]:List Int)=yq.list:=rfl;have hz2:((long 8 (eI s).list).bind fun q=>bm q (0:Int) (2:Int))=some [(eI s).a,(eI s).b]:=rfl
 have ate:js s++kq ((s.length:Int)*8)=et s:=rfl;simp only[f69,h8,hm,ha,Option.bind_some,eT,aE,hn,aF,ate,bJ,hz2,cL _ _ hw.1 hw.2,u4];rfl
abbrev WF:Shape:=⟨[ay 0 500000 0,ak 1],[bp 37000001 .u8 500000 1,ax 500000 [.dz,.own 37000001]],19⟩
abbrev Wq:Shape:=⟨[ay 0 500000 0,ag 4,(5,.am (.Db))],[bp 37000001 .u8 500000 1,ax 500000 [.dz,.own 37000001]],19⟩
noncomputable def mm(a:WF.J):Option Wq.J:=
(b9 1 a.2.1 (bytesOf a.1.2.1)).bind fun b=>
 some (((),(a.1.2.1.length:Int),(),()),b,((),(),()),())
noncomputable def C0:aD:=aH ad Tryz.f63 WF Wq [0] mm
theorem J_:aB O 63 C0:=aK g0 Tryz.func63 (by kernel_rfl) ae (fun y=>by kernel_rfl) fun a=>by kernel_rfl
end Go.Proofs
namespace Go.Proofs
open Go.Shelf
def Tryz.afg:Go.Shelf.Ren:=⟨fun|171=>64|243=>113|246=>165|283=>205|284=>206|285=>207|286=>208|129=>240|317=>239|318=>241|319=>242|320=>243|337=>269|338=>270|n=>n,fun|3=>3|9=>9|2=>2|4=>4|171=>224|0=>0|53=>155|37=>52|5=>5|173=>227|212=>244|51=>153|20=>20|213=>245|46=>203|232=>268|233=>269|n=>n,fun|17=>1|18=>3|19=>4|n=>n⟩
theorem Tryz.ak1:Go.Proofs.LaysM.n171 O Tryz.afg:={
 mixed:=by kernel_rfl
 f129:=Tryz.func240.trans (congrArg some (by kernel_rfl))
 f171:=Tryz.func64.trans (congrArg some (by kernel_rfl))
 f243:=Tryz.func113.trans (congrArg some (by kernel_rfl))
 f246:=Tryz.func165.trans (congrArg some (by kernel_rfl))
 f283:=Tryz.func205.trans (congrArg some (by kernel_rfl))
 f284:=Tryz.func206.trans (congrArg some (by kernel_rfl))
 f285:=Tryz.func207.trans (congrArg some (by kernel_rfl))
 f286:=Tryz.func208.trans (congrArg some (by kernel_rfl))
 f317:=Tryz.func239.trans (congrArg some (by kernel_rfl))
 f318:=Tryz.func241.trans (congrArg some (by kernel_rfl))
 f319:=Tryz.func242.trans (congrArg some (by kernel_rfl))
 f320:=Tryz.func243.trans (congrArg some (by kernel_rfl))
 f337:=Tryz.func269.trans (congrArg some (by kernel_rfl))
 f338:=Tryz.func270.trans (congrArg some (by kernel_rfl))
 t0:=Tryz.underlying0
 a0:=Tryz.isAgg0
 z0:=Tryz.sizeOf0
 v0:=Tryz.zeroValue0
 t2:=Tryz.underlying2
 a2:=Tryz.isAgg2
 z2:=Tryz.sizeOf2
 v2:=Tryz.zeroValue2
 t3:=Tryz.underlying3
 a3:=Tryz.isAgg3
 z3:=Tryz.sizeOf3
 v3:=Tryz.zeroValue3
 t4:=Tryz.underlying4
 a4:=Tryz.isAgg4
 z4:=Tryz.sizeOf4
 v4:=Tryz.zeroValue4
 t5:=Tryz.underlying5
 a5:=Tryz.isAgg5
 z5:=Tryz.sizeOf5
 v5:=Tryz.zeroValue5
 t9:=Tryz.underlying9
 a9:=Tryz.isAgg9
 z9:=Tryz.sizeOf9
 v9:=Tryz.zeroValue9
 t20:=Tryz.underlying20
 a20:=Tryz.isAgg20
 z20:=Tryz.sizeOf20
 v20:=Tryz.zeroValue20
 t37:=Tryz.underlying52
 a37:=Tryz.isAgg52
 z37:=Tryz.sizeOf52
 v37:=Tryz.zeroValue52
 t46:=Tryz.underlying203
 a46:=Tryz.isAgg203
 z46:=Tryz.sizeOf203
 v46:=Tryz.zeroValue203
 t51:=Tryz.underlying153
 a51:=Tryz.isAgg153
 z51:=Tryz.sizeOf153
 v51:=Tryz.zeroValue153
 t53:=Tryz.underlying155
 a53:=Tryz.isAgg155
 z53:=Tryz.sizeOf155
 v53:=Tryz.zeroValue155
 t171:=Tryz.underlying224
 a171:=Tryz.isAgg224
 z171:=Tryz.sizeOf224
 v171:=Tryz.zeroValue224
 t173:=Tryz.underlying227
 a173:=Tryz.isAgg227
 z173:=Tryz.sizeOf227
 v173:=Tryz.zeroValue227
 t212:=Tryz.underlying244
 a212:=Tryz.isAgg244
 z212:=Tryz.sizeOf244
 v212:=Tryz.zeroValue244
 t213:=Tryz.underlying245
 a213:=Tryz.isAgg245
 z213:=Tryz.sizeOf245
 t232:=Tryz.underlying268
 a232:=Tryz.isAgg268
 z232:=Tryz.sizeOf268
 v232:=Tryz.zeroValue268
 t233:=Tryz.underlying269
 a233:=Tryz.isAgg269
 z233:=Tryz.sizeOf269
 v233:=Tryz.zeroValue269
 g17:=by kernel_rfl
 g18:=by kernel_rfl
 g19:=by kernel_rfl
 i0:=by kernel_rfl
 i2:=by kernel_rfl
 i3:=by kernel_rfl
 i4:=by kernel_rfl
 i5:=by kernel_rfl
 i9:=by kernel_rfl
 i20:=by kernel_rfl
 i37:=by kernel_rfl
 i46:=by kernel_rfl
 i51:=by kernel_rfl
 i53:=by kernel_rfl
 i171:=by kernel_rfl
 i173:=by kernel_rfl
 i212:=by kernel_rfl
 i232:=by kernel_rfl
 i233:=by kernel_rfl
 m17:=by kernel_rfl
 m18:=by kernel_rfl
 m19:=by kernel_rfl}
open Go.RowKit Go.Sort Go.Lib in
theorem Tryz.strconv_Itoa(n:Int)(h0:-9223372036854775808<=n)(h1:n<=9223372036854775807)(w:World)(atb:Lib.TabIs O w "internal/strconv.uint64pow10" .u64 Lib.pow10Tab):
  Calls O 64 #[.int .i64 n] w fun e w'=>e=.returned (.string ⟨(Lib.itoa n).toArray⟩)/\∃k os,w'=grow (w.drewN k) os:=Any.strconv_Itoa Tryz.ak1 n h0 h1 w atb
def Tryz.af7:Go.Shelf.Ren:=⟨fun|153=>214|152=>252|226=>253|227=>254|228=>255|137=>274|119=>275|224=>246|225=>245|217=>244|266=>271|n=>n,fun|9=>9|3=>3|4=>4|5=>5|21=>21|117=>253|116=>252|0=>0|46=>203|124=>264|n=>n,fun|n=>n⟩
theorem Tryz.anc:Go.Proofs.Lays.n153 O Tryz.af7:={
 mixed:=by kernel_rfl
 f119:=Tryz.func275.trans (congrArg some (by kernel_rfl))
 f137:=Tryz.func274.trans (congrArg some (by kernel_rfl))
 f152:=Tryz.func252.trans (congrArg some (by kernel_rfl))
 f153:=Tryz.func214.trans (congrArg some (by kernel_rfl))
 f217:=Tryz.func244.trans (congrArg some (by kernel_rfl))
 f224:=Tryz.func246.trans (congrArg some (by kernel_rfl))
 f225:=Tryz.func245.trans (congrArg some (by kernel_rfl))
 f226:=Tryz.func253.trans (congrArg some (by kernel_rfl))
 f227:=Tryz.func254.trans (congrArg some (by kernel_rfl))
 f228:=Tryz.func255.trans (congrArg some (by kernel_rfl))
 f266:=Tryz.func271.trans (congrArg some (by kernel_rfl))
 t0:=Tryz.underlying0
 a0:=Tryz.isAgg0
 z0:=Tryz.sizeOf0
 v0:=Tryz.zeroValue0
 t3:=Tryz.underlying3
 a3:=Tryz.isAgg3
 z3:=Tryz.sizeOf3
 v3:=Tryz.zeroValue3
 t4:=Tryz.underlying4
 a4:=Tryz.isAgg4
 z4:=Tryz.sizeOf4
 v4:=Tryz.zeroValue4
 t5:=Tryz.underlying5
 a5:=Tryz.isAgg5
 z5:=Tryz.sizeOf5
 v5:=Tryz.zeroValue5
 t9:=Tryz.underlying9
 a9:=Tryz.isAgg9
 z9:=Tryz.sizeOf9
 v9:=Tryz.zeroValue9
 t21:=Tryz.underlying21
 a21:=Tryz.isAgg21
 z21:=Tryz.sizeOf21
 v21:=Tryz.zeroValue21
 t46:=Tryz.underlying203
 a46:=Tryz.isAgg203
 z46:=Tryz.sizeOf203
 v46:=Tryz.zeroValue203
 t116:=Tryz.underlying252
 a116:=Tryz.isAgg252
 z116:=Tryz.sizeOf252
 t117:=Tryz.underlying253
 a117:=Tryz.isAgg253
 z117:=Tryz.sizeOf253
 v117:=Tryz.zeroValue253
 t124:=Tryz.underlying264
 a124:=Tryz.isAgg264
 z124:=Tryz.sizeOf264
 v124:=Tryz.zeroValue264}
end Go.Proofs
namespace Go.Proofs
open Go.Jk
noncomputable def Dp:aD:=G4
theorem Ku:aB O 64 Dp:=anf (fun _ _=>enters_of Tryz.func64 (by kernel_rfl) rfl _ _) fun n h0 h1 w hw=>Tryz.strconv_Itoa n h0 h1 w (ajQ (by kernel_rfl) (show ov w 1 .u64 Lib.pow10Tab from hw.2))
noncomputable abbrev avc:a_:=[(63,C0),(64,Dp),(105,xd)]
theorem aaA:aR O (aX ad avc):=aV ⟨J_,Ku,z105,⟨⟩⟩
abbrev zH:Shape:=⟨[ay 3 3 0,aL 10 .entry,ag 11,ag 12],[bp 5000193 .u8 3 1,ax 3 [.dz,.own 5000193]],64⟩
abbrev GB:List aP:=[(.exit 0,⟨[ay 3 3 0],[bp 5000193 .u8 3 1,ax 3 [.dz,.own 5000193]],64⟩)]
noncomputable def z6(y:zH.J):bG zH GB:=
 bif(decide (y.1.2.2.2.1<y.1.2.2.1)) then
(aO y.1.2.1 y.1.2.2.2.1).bind fun a=>
(if-9223372036854775808<=a.mode/\a.mode<=9223372036854775807 then some () else none).bind fun b=>
 bif(a.kind==(1:Int)) then
(b4 ([100,105,114,32]:B) (Lib.itoa a.mode)).bind fun c=>
(b4 c ([32]:B)).bind fun d=>
(b4 d a.path).bind fun e=>
(b4 e ([10]:B)).bind fun f=>
(mm (((),f,()),y.2.1,((),(),()),())).bind fun g=>
 some (.inl (((),y.1.2.1,y.1.2.2.1,(IntKind.i64.wrap (y.1.2.2.2.1+(1:Int))),()),g.2.1,((),(),()),()))
else
 bif(a.kind==(2:Int)) then
(b4 ([102,105,108,101,32]:B) (Lib.itoa a.mode)).bind fun h=>
(b4 h ([32]:B)).bind fun i=>
(b4 i a.path).bind fun j=>
(b4 j ([32]:B)).bind fun k=>
(if-9223372036854775808<=(a.text.length:Int)/\(a.text.length:Int)<=9223372036854775807 then some () else none).bind fun l=>
(b4 k (Lib.itoa (a.text.length:Int))).bind fun m=>
(b4 m ([10]:B)).bind fun n=>
(mm (((),n,()),y.2.1,((),(),()),())).bind fun D=>
(b4 a.text ([10]:B)).bind fun p=>
(mm (((),p,()),D.2.1,((),(),()),())).bind fun q=>
 some (.inl (((),y.1.2.1,y.1.2.2.1,(IntKind.i64.wrap (y.1.2.2.2.1+(1:Int))),()),q.2.1,((),(),()),()))
else
 bif(a.kind==(3:Int)) then
(b4 ([108,105,110,107,32]:B) a.path).bind fun r=>
(b4 r ([32]:B)).bind fun s=>
(b4 s a.text).bind fun t=>
(b4 t ([10]:B)).bind fun u=>
(mm (((),u,()),y.2.1,((),(),()),())).bind fun v=>
 some (.inl (((),y.1.2.1,y.1.2.2.1,(IntKind.i64.wrap (y.1.2.2.2.1+(1:Int))),()),v.2.1,((),(),()),()))
else
 some (.inl (((),y.1.2.1,y.1.2.2.1,(IntKind.i64.wrap (y.1.2.2.2.1+(1:Int))),()),y.2.1,((),(),()),()))
else
 some (.inr (((),()),y.2.1,((),(),()),()))
noncomputable def G2:zH.J->Option (aC GB):=bu z6
theorem akF:aT O (an (codeOf Tryz.f120) 1 122) (aU zH GB G2):=bI aaA (by kernel_rfl) ae fun y=>by kernel_rfl
abbrev i120:Shape:=⟨[aL 0 .entry],[],64⟩
abbrev YZ:Shape:=⟨[ak 2],[],64⟩
noncomputable def f120(a:i120.J):Option YZ.J:=
(f105 ((a.1.1,()),())).bind fun b=>
 bif(!b.1.1) then
 some ((([]:B),()),())
else
(G2 (((),a.1.1,(a.1.1.length:Int),(0:Int),()),([]:List Int),((),(),()),())).bind fun c=>
 some (((strOf c.2.1),()),())
noncomputable def _3:aD:=aH ad Tryz.f120 i120 YZ [] f120
theorem asv:aB O 120 _3:=aK aaA Tryz.func120 (by kernel_rfl) (a8 akF ae) (fun y=>by kernel_rfl) fun a=>by kernel_rfl
abbrev i83:Shape:=⟨[ag 0],[],28⟩
abbrev nD:Shape:=⟨[ak 2],[],28⟩
noncomputable def Li(aS:i83.J->Option nD.J):aD:=aH ad Tryz.f83 i83 nD [] aS
noncomputable abbrev azl(aS:i83.J->Option nD.J):a_:=[(83,(Li aS))]
theorem az1(aS:i83.J->Option nD.J)(eB:aB O 83 (Li aS)):aR O (aX ad (azl aS)):=aV ⟨eB,⟨⟩⟩
noncomputable def lP(aS:i83.J->Option nD.J)(a:i83.J):Option nD.J:=
 bif(decide (a.1.1<((-9223372036854775807):Int))) then
 some ((([45,57,50,50,51,51,55,50,48,51,54,56,53,52,55,55,53,56,48,56]:B),()),())
else
 bif(decide (a.1.1<(0:Int))) then
(aS (((IntKind.i64.wrap (0-a.1.1)),()),())).bind fun b=>
(b4 ([45]:B) b.1.1).bind fun c=>
 some ((c,()),())
else
 bif(decide (a.1.1<(10:Int))) then
 some (((strOf ([(IntKind.u8.wrap (IntKind.i64.wrap ((48:Int)+a.1.1)))]:List Int)),()),())
else
(lM .i64 a.1.1 (10:Int)).bind fun d=>
(aS ((d,()),())).bind fun e=>
(iK a.1.1 (10:Int)).bind fun f=>
(b4 e.1.1 (strOf ([(IntKind.u8.wrap (IntKind.i64.wrap ((48:Int)+f)))]:List Int))).bind fun g=>
 some ((g,()),())
theorem aru(aS:i83.J->Option nD.J)(eB:aB O 83 (Li aS)):aB O 83 (aH ad Tryz.f83 i83 nD [] (lP aS)):=aK (az1 aS eB) Tryz.func83 (by kernel_rfl) ae (fun y=>by kernel_rfl) fun a=>by kernel_rfl
noncomputable def f83:i83.J->Option nD.J:=jU lP km
noncomputable def xZ:aD:=aH ad Tryz.f83 i83 nD [] f83
theorem DF:aB O 83 xZ:=Js (ff:=lP) aru km
noncomputable abbrev auc:a_:=[(83,xZ)]
theorem avy:aR O (aX ad auc):=aV ⟨DF,⟨⟩⟩
abbrev i226:Shape:=⟨[b_ 0 [ah,a6,a6,ah]],[],45⟩
abbrev XM:Shape:=⟨[ak 2],[],45⟩
noncomputable def f226(a:i226.J):Option XM.J:=
 bif(a.1.1.2.1==(1:Int)) then
(f83 ((a.1.1.2.2.1,()),())).bind fun b=>
(b4 ([100,105,114,32]:B) b.1.1).bind fun c=>
(b4 c ([32]:B)).bind fun d=>
(b4 d a.1.1.1).bind fun e=>
(b4 e ([10]:B)).bind fun f=>
 some ((f,()),())
else
 bif(a.1.1.2.1==(3:Int)) then
(b4 ([108,105,110,107,32]:B) a.1.1.1).bind fun g=>
(b4 g ([32]:B)).bind fun h=>
(b4 h a.1.1.2.2.2.1).bind fun i=>
(b4 i ([10]:B)).bind fun j=>
 some ((j,()),())
else
(f83 ((a.1.1.2.2.1,()),())).bind fun k=>
(b4 ([102,105,108,101,32]:B) k.1.1).bind fun l=>
(b4 l ([32]:B)).bind fun m=>
(b4 m a.1.1.1).bind fun n=>
(b4 n ([32]:B)).bind fun D=>
(f83 (((a.1.1.2.2.2.1.length:Int),()),())).bind fun p=>
(b4 D p.1.1).bind fun q=>
(b4 q ([10]:B)).bind fun r=>
(b4 r a.1.1.2.2.2.1).bind fun s=>
(b4 s ([10]:B)).bind fun t=>
 some ((t,()),())
noncomputable def Z8:aD:=aH ad Tryz.f226 i226 XM [] f226
theorem z226:aB O 226 Z8:=aK avy Tryz.func226 (by kernel_rfl) ae (fun y=>by kernel_rfl) fun a=>by kernel_rfl
noncomputable abbrev auy:a_:=[(226,Z8)]
theorem aal:aR O (aX ad auy):=aV ⟨z226,⟨⟩⟩
abbrev Av:Shape:=⟨[aL 0 .entry,ak 3,ag 4],[],19⟩
abbrev HJ:List aP:=[(.exit 0,⟨[ak 3],[],19⟩)]
noncomputable def Bb(y:Av.J):bG Av HJ:=
 bif(decide (y.1.2.2.1<(y.1.1.length:Int))) then
(aO y.1.1 y.1.2.2.1).bind fun a=>
(f226 (((a.path,a.kind,a.mode,a.text,()),()),())).bind fun b=>
(b4 y.1.2.1 b.1.1).bind fun c=>
 some (.inl ((y.1.1,c,(IntKind.i64.wrap (y.1.2.2.1+(1:Int))),()),()))
else
 some (.inr ((y.1.2.1,()),()))
noncomputable def Iv:Av.J->Option (aC HJ):=bu Bb
theorem amu:aT O (an (codeOf Tryz.f181) 1 58) (aU Av HJ Iv):=bI aal (by kernel_rfl) ae fun y=>by kernel_rfl
abbrev i181:Shape:=⟨[aL 0 .entry],[],19⟩
abbrev Yi:Shape:=⟨[ak 2],[],19⟩
noncomputable def f181(a:i181.J):Option Yi.J:=
(Iv ((a.1.1,([]:B),(0:Int),()),())).bind fun b=>
 some ((b.1.1,()),())
noncomputable def Lv:aD:=aH ad Tryz.f181 i181 Yi [] f181
theorem W_:aB O 181 Lv:=aK aal Tryz.func181 (by kernel_rfl) (a8 amu ae) (fun y=>by kernel_rfl) fun a=>by kernel_rfl
theorem Sv(m:Nat)(h:m<10):strOf ([(IntKind.u8.wrap (IntKind.i64.wrap ((48:Int)+(m:Int))))]:List Int)=[UInt8.ofNat (48+m)]:=by
 have:IntKind.u8.wrap (IntKind.i64.wrap ((48:Int)+(m:Int)))=((48+m:Nat):Int):=by
  rw[cT (by omega) (by omega),IntKind.wrap_u8];omega
 rw[this];rfl
theorem T5:∀n:Nat,n<10^20->(Lib.decDigits n).length<=20:=by
 have:∀(k n:Nat),n<10^(k+1)->(Lib.decDigits n).length<=k+1:=by
  intro k;induction k with
  |zero=>intro n h;rw[Lib.decDigits,dif_pos (by omega)];simp
  |succ k ih=>
   intro n h;rw[Lib.decDigits];split
   ·simp
   ·have:=ih (n/10) (by rw[Nat.pow_succ] at h;omega)
    simp;omega
 intro n h;exact this 19 n h
theorem n6(n:Nat):Lib.itoa (n:Int)=Lib.decDigits n:=by unfold Lib.itoa;rw[if_neg (by omega),Int.toNat_natCast]
theorem jK(n:Nat)(h:n<=4611686018427387904):(Lib.itoa (n:Int)).length<=20:=by rw[n6];exact T5 n (by omega)
theorem ajD:∀(m:Nat),m<=4611686018427387903->∀f:Nat,m<f->jU lP f (((m:Int),()),())=some ((Lib.decDigits m,()),()):=by
 intro m;induction m using Nat.strongRecOn with
 |_ m ih=>
  intro hm f hf;obtain⟨f,rfl⟩:∃aAP,f=aAP+1:=⟨f-1,by omega⟩
  show lP (jU lP f) (((m:Int),()),())=_;have h1:decide ((m:Int)< -9223372036854775807)=false:=decide_eq_false (by omega)
  have h2:decide ((m:Int)<0)=false:=decide_eq_false (by omega)
  have h3:decide ((m:Int)<10)=decide (m<10):=by congr 1;apply propext;omega
  rw[Lib.decDigits];by_cases h:m<10
  ·rw[dif_pos h];simp only[lP,h1,h2,h3,h,decide_true,cond_true,cond_false,Sv m h]
  ·have az:lM .i64 (m:Int) 10=some ((m/10:Nat):Int):=by exact v7 rfl (by omega) (by omega) (by decide)
   have hr:iK (m:Int) 10=some ((m%10:Nat):Int):=by exact oj (by omega) (by decide)
   rw[dif_neg h];simp only[lP,h1,h2,h3,h,decide_false,cond_false,az,hr,Option.bind_some,ih (m/10) (by omega) (by omega) f (by omega),Sv (m%10) (by omega)]
   rw[du (by have:=T5 (m/10) (by omega);simp;omega)]
   rfl
theorem z'(m:Nat)(h:m<=4611686018427387903):f83 (((m:Int),()),())=some ((Lib.itoa (m:Int),()),()):=by
 rw[n6];exact ajD m h km (by unfold km;omega)
def dY(e:aw):B:=bif e.kind==1 then [100,105,114,32]++Lib.itoa e.mode++[32]++e.path++[10] else bif e.kind==3 then [108,105,110,107,32]++e.path++[32]++e.text++[10]
 else [102,105,108,101,32]++Lib.itoa e.mode++[32]++e.path++[32]++Lib.itoa (e.text.length:Int)++[10]++e.text++[10]
def dd(t:List aw):B:=t.flatMap dY
abbrev nU(e:aw):Prop:=0<=e.mode/\e.mode<=7
theorem A2{e:aw}(h:nU e):(Lib.itoa e.mode).length<=20:=by
 obtain⟨n,hn⟩:=Int.eq_ofNat_of_zero_le h.1;rw[hn];exact jK n (by have:=h.2;omega)
theorem FU{e:aw}(h:nU e)(hb:lX e):(dY e).length<=4194404:=by
 have h1:=A2 h;have h2:=jK e.text.length (by have:=hb.2;omega)
 have h3:=hb.1;have aA:=hb.2;unfold dY;cases e.kind==1<;>cases e.kind==3<;>simp<;>omega
theorem ajz(e:aw)(h:nU e)(hb:lX e):f226 (((e.path,(e.kind,(e.mode,(e.text,())))),()),())=some ((dY e,()),()):=by
 have h1:=A2 h;have h2:=jK e.text.length (by have:=hb.2;omega)
 have h3:=hb.1;have aA:=hb.2;obtain⟨n,hn⟩:=Int.eq_ofNat_of_zero_le h.1;have d1:=z' n (by have:=h.2;omega)
 rw[<-hn] at d1;have d2:=z' e.text.length (by omega)
 unfold dY;simp only[f226];cases e.kind==1 with
 |true=>
  simp only[cond_true,d1,Option.bind_some];repeat(rw[du (by simp;omega),Option.bind_some])
 |false=>
  cases e.kind==3 with
  |true=>
   simp only[cond_true,cond_false,Option.bind_some];repeat(rw[du (by simp;omega),Option.bind_some])
  |false=>
   simp only[cond_false,d1,d2,Option.bind_some];repeat(rw[du (by simp;omega),Option.bind_some])
theorem m'{aJ:Type}{f:aJ->B}{n:Nat}:∀{xs:List aJ},(∀x,x∈xs->(f x).length<=n)->(xs.flatMap f).length<=xs.length*n:=by
 intro xs;induction xs with
 |nil=>intro _;simp
 |cons x r ih=>
  intro h;have h1:=h x List.mem_cons_self;have h2:=ih fun y hy=>h y (List.mem_cons_of_mem _ hy)
  rw[List.flatMap_cons,List.length_append,List.length_cons,Nat.add_mul];omega
theorem mX{aJ:Type}(f:aJ->B){xs:List aJ}{i:Nat}{x:aJ}(h:xs[i]? =some x):(xs.take (i+1)).flatMap f=(xs.take i).flatMap f++f x:=by
 rw[List.take_add_one,h,List.flatMap_append];simp
theorem yK{t:List aw}(hm:∀e,e∈t->nU e)(hb:is t)(hl:t.length<=16):(dd t).length<=67110464:=by
 have h1:=m' (f:=dY) (xs:=t) (n:=4194404) fun e he=>FU (hm e he) (hb.2 e he)
 unfold dd;exact Nat.le_trans h1 (by omega)
theorem qz{aJ:Type}{xs:List aJ}{i:Nat}{x:aJ}(h:x∈xs.take i):x∈xs:=List.mem_of_mem_take h
theorem Ow{t:List aw}(hm:∀e,e∈t->nU e)(hb:is t)(hl:t.length<=16)(i:Nat):((t.take i).flatMap dY).length<=67110464:=
 yK (t:=t.take i) (fun e he=>hm e (qz he)) ⟨Nat.le_trans (List.take_sublist i t).length_le hb.1,fun e he=>hb.2 e (qz he)⟩ (Nat.le_trans (List.take_sublist i t).length_le hl)
theorem Fv(t:List aw)(hm:∀e,e∈t->nU e)(hb:is t)(hl:t.length<=16):f181 ((t,()),())=some ((dd t,()),()):=by
 have aE:Iv ((t,(([]:B),((0:Int),()))),())=some ((dd t,()),()):=by
  refine fK (g:=Bb) (fun i=>((t,((t.take i).flatMap dY,((i:Int),()))),())) t.length (fun i hi=>?_) ?_ t.length 0 (by omega)
  ·obtain⟨e,he⟩:∃e,t[i]? =some e:=⟨t[i],List.getElem?_eq_getElem hi⟩;have en:=List.mem_of_getElem? he;have:=Ow hm hb hl i;have hA:=FU (hm e en) (hb.2 e en);simp only[Bb,cf hi,cond_true,b5,he,Option.bind_some,ajz e (hm e en) (hb.2 e en)];rw[du (by omega),bX (by unfold au;omega),mX dY he]
   rfl
  ·simp only[Bb,dx,cond_false,List.take_length];rfl
 simp only[f181,aE,Option.bind_some]
theorem sH{n a b:Int}(h:within n a b=true):a<=n/\n<=b:=by
 unfold within at h;simpa using h
theorem He{e:aw}(h:eN e=true):nU e:=by
 unfold eN at h;simp only[Bool.and_eq_true] at h;have h:=h.2;cases aE:(e.kind==1) with
 |true=>
  rw[aE] at h;simp only[cond_true,Bool.and_eq_true] at h;exact sH h.1
 |false=>
  cases aF:(e.kind==2) with
  |true=>
   rw[aE,aF] at h;simp only[cond_true,cond_false,Bool.and_eq_true] at h;exact sH h.1
  |false=>
   rw[aE,aF] at h;cases bJ:(e.kind==3) with
   |true=>
    rw[bJ] at h;simp only[cond_true,cond_false,Bool.and_eq_true,beq_iff_eq] at h;exact⟨by rw[h.1];decide,by rw[h.1];decide⟩
   |false=>rw[bJ] at h;cases h
theorem va{e:aw}(h:eN e=true):e.kind=1\/e.kind=2\/e.kind=3:=by
 unfold eN at h;simp only[Bool.and_eq_true] at h;have h:=h.2;cases aE:(e.kind==1) with
 |true=>exact .inl (eq_of_beq aE)
 |false=>
  cases aF:(e.kind==2) with
  |true=>exact .inr (.inl (eq_of_beq aF))
  |false=>
   cases bJ:(e.kind==3) with
   |true=>exact .inr (.inr (eq_of_beq bJ))
   |false=>rw[aE,aF,bJ] at h;cases h
theorem u7{t:List aw}(h:dC t=true):∀e,e∈t->eN e=true:=by
 intro e he;unfold dC at h;simp only[Bool.and_eq_true] at h;obtain⟨i,hi⟩:=List.getElem?_of_mem he;have:=z8 t 0 h.1.1 i e hi;unfold iV at this;simp only[Bool.and_eq_true] at this;exact this.1
theorem pi(xs:List Int)(s:B)(h:au (xs.length+s.length)):mm (((),(s,())),(xs,(((),((),())),())))=some (((),((s.length:Int),((),()))),(xs++bytesOf s,(((),((),())),()))):=by
 simp only[mm];rw[di (by decide) (by rw[ji];exact h)]
 rfl
theorem JO{n:Int}(h:-9223372036854775808<=n/\n<=9223372036854775807):(if-9223372036854775808<=n/\n<=9223372036854775807 then some () else none)=some ():=if_pos h
theorem afB(t:List aw)(hb:is t):f120 ((t,()),())=some (((bif dC t then dd t else []),()),()):=by
 have h0:=qt ((t,()),()) hb;simp only[f120,h0,Option.bind_some];cases fI:dC t with
 |false=>rfl
 |true=>
  have hl:=jJ fI;have Zv:=u7 fI;have hm:∀e,e∈t->nU e:=fun e he=>He (Zv e he)
  have aE:G2 (((),(t,((t.length:Int),((0:Int),())))),(([]:List Int),(((),((),())),())))=some (((),()),(bytesOf (dd t),(((),((),())),()))):=by
   refine fK (g:=z6) (fun i=>(((),(t,((t.length:Int),((i:Int),())))),(bytesOf ((t.take i).flatMap dY),(((),((),())),())))) t.length (fun i hi=>?_) ?_ t.length 0 (by omega)
   ·obtain⟨e,he⟩:∃e,t[i]? =some e:=⟨t[i],List.getElem?_eq_getElem hi⟩;have en:=List.mem_of_getElem? he;have iL:=Ow hm hb hl i;have hA:=FU (hm e en) (hb.2 e en);have h1:=A2 (hm e en);have h2:=jK e.text.length (by have:=(hb.2 e en).2;omega)
    have h3:=(hb.2 e en).1;have aA:=(hb.2 e en).2;have aCi:=hm e en;have i1:=JO (n:=e.mode) ⟨by omega,by omega⟩
    have i2:=JO (n:=(e.text.length:Int)) ⟨by omega,by omega⟩
    rw[mX dY he,o8];simp only[z6,cf hi,cond_true,b5,he,Option.bind_some,i1,i2,bX (i:=i) (by unfold au;omega)]
    generalize List.flatMap dY (List.take i t)=A at iL ⊢;rcases va (Zv e en) with hk|hk|hk
    ·have e1:dY e=[100,105,114,32]++Lib.itoa e.mode++[32]++e.path++[10]:=by unfold dY;rw[hk];rfl
     rw[hk,show((1:Int)==1)=true from rfl,cond_true,e1]
     repeat(rw[du (by simp;omega),Option.bind_some])
     rw[pi _ _ (by unfold au;rw[ji];simp;omega)]
     rfl
    ·have e1:dY e=[102,105,108,101,32]++Lib.itoa e.mode++[32]++e.path++[32]++Lib.itoa (e.text.length:Int)++[10]++(e.text++[10]):=by unfold dY;rw[hk];simp
     rw[hk,show((2:Int)==1)=false from rfl,show((2:Int)==2)=true from rfl,cond_false,cond_true,e1]
     repeat(rw[du (by simp;omega),Option.bind_some])
     rw[pi _ _ (by unfold au;rw[ji];simp;omega),Option.bind_some]
     rw[du (by simp;omega),Option.bind_some]
     rw[pi _ _ (by unfold au;simp[ji];omega),o8 _ (e.text++[10]),<-List.append_assoc]
     rfl
    ·have e1:dY e=[108,105,110,107,32]++e.path++[32]++e.text++[10]:=by unfold dY;rw[hk];rfl
     rw[hk,show((3:Int)==1)=false from rfl,show((3:Int)==2)=false from rfl,show((3:Int)==3)=true from rfl,cond_false,cond_false,cond_true,e1]
     repeat(rw[du (by simp;omega),Option.bind_some])
     rw[pi _ _ (by unfold au;rw[ji];simp;omega)]
     rfl
   ·simp only[z6,dx,cond_false,List.take_length];rfl
  simp only[Bool.not_true,cond_false,cond_true,aE,Option.bind_some,u4]
noncomputable abbrev avd:a_:=[(102,xe)]
theorem avW:aR O (aX ad avd):=aV ⟨C6,⟨⟩⟩
abbrev i119:Shape:=⟨[b_ 0 [ah,a6,ah]],[],34⟩
abbrev Y0:Shape:=⟨[ak 2],[],34⟩
noncomputable def f119(a:i119.J):Option Y0.J:=
(f102 (((a.1.1.1,a.1.1.2.1,a.1.1.2.2.1,()),()),())).bind fun b=>
 bif(!b.1.1) then
 some ((([]:B),()),())
else
 bif(a.1.1.2.1==(1:Int)) then
(b4 a.1.1.1 ([61]:B)).bind fun c=>
(b4 c a.1.1.2.2.1).bind fun d=>
 some ((d,()),())
else
 bif(a.1.1.2.1==(2:Int)) then
(b4 a.1.1.1 ([62,61]:B)).bind fun e=>
(b4 e a.1.1.2.2.1).bind fun f=>
 some ((f,()),())
else
 bif(a.1.1.2.1==(3:Int)) then
(b4 a.1.1.1 ([60]:B)).bind fun g=>
(b4 g a.1.1.2.2.1).bind fun h=>
 some ((h,()),())
else
 some ((a.1.1.1,()),())
noncomputable def _4:aD:=aH ad Tryz.f119 i119 Y0 [] f119
theorem z119:aB O 119 _4:=aK avW Tryz.func119 (by kernel_rfl) ae (fun y=>by kernel_rfl) fun a=>by kernel_rfl
abbrev i225:Shape:=⟨[ag 0],[],10⟩
abbrev XN:Shape:=⟨[ak 2],[],10⟩
noncomputable def f225(a:i225.J):Option XN.J:=
 bif(a.1.1==(1:Int)) then
 some ((([61]:B),()),())
else
 bif(a.1.1==(2:Int)) then
 some ((([62,61]:B),()),())
else
 bif(a.1.1==(3:Int)) then
 some ((([60]:B),()),())
else
 some ((([]:B),()),())
noncomputable def Ln:aD:=aH ad Tryz.f225 i225 XN [] f225
theorem W5:aB O 225 Ln:=aK g0 Tryz.func225 (by kernel_rfl) ae (fun y=>by kernel_rfl) fun a=>by kernel_rfl
noncomputable abbrev auh:a_:=[(225,Ln)]
theorem avA:aR O (aX ad auh):=aV ⟨W5,⟨⟩⟩
abbrev i218:Shape:=⟨[b_ 0 [ah,a6,ah]],[],12⟩
abbrev XT:Shape:=⟨[ak 2],[],12⟩
noncomputable def f218(a:i218.J):Option XT.J:=
(f225 ((a.1.1.2.1,()),())).bind fun b=>
(b4 a.1.1.1 b.1.1).bind fun c=>
(b4 c a.1.1.2.2.1).bind fun d=>
 some ((d,()),())
noncomputable def Lp:aD:=aH ad Tryz.f218 i218 XT [] f218
theorem z218:aB O 218 Lp:=aK avA Tryz.func218 (by kernel_rfl) ae (fun y=>by kernel_rfl) fun a=>by kernel_rfl
noncomputable abbrev auF:a_:=[(181,Lv),(218,Lp)]
theorem aan:aR O (aX ad auF):=aV ⟨W_,z218,⟨⟩⟩
abbrev Az:Shape:=⟨[ay 1 1 0,ak 3,ag 4],[ax 1 [ah,ah,bn .need,bn .entry]],36⟩
abbrev HO:List aP:=[(.exit 0,⟨[ay 1 1 0,ak 3],[ax 1 [ah,ah,bn .need,bn .entry]],36⟩)]
noncomputable def Bc(y:Az.J):bG Az HO:=
 bif(decide (y.1.2.2.1<(y.2.1.2.2.1.length:Int))) then
(b4 y.1.2.1 ([110,101,101,100,32]:B)).bind fun a=>
(aO y.2.1.2.2.1 y.1.2.2.1).bind fun b=>
(f218 (((b.name,b.kind,b.aW,()),()),())).bind fun c=>
(b4 a c.1.1).bind fun d=>
(b4 d ([10]:B)).bind fun e=>
 some (.inl (((),e,(IntKind.i64.wrap (y.1.2.2.1+(1:Int))),()),(y.2.1.1,y.2.1.2.1,y.2.1.2.2.1,y.2.1.2.2.2.1,()),()))
else
 some (.inr (((),y.1.2.1,()),(y.2.1.1,y.2.1.2.1,y.2.1.2.2.1,y.2.1.2.2.2.1,()),()))
noncomputable def Iw:Az.J->Option (aC HO):=bu Bc
theorem amy:aT O (an (codeOf Tryz.f172) 1 58) (aU Az HO Iw):=bI aan (by kernel_rfl) ae fun y=>by kernel_rfl
abbrev i172:Shape:=⟨[b_ 0 [ah,ah,bn .need,bn .entry]],[],36⟩
abbrev Yo:Shape:=⟨[ak 2],[],36⟩
noncomputable def f172(a:i172.J):Option Yo.J:=
(b4 ([112,97,99,107,32]:B) a.1.1.1).bind fun b=>
(b4 b ([32]:B)).bind fun c=>
(b4 c a.1.1.2.1).bind fun d=>
(b4 d ([10]:B)).bind fun e=>
(Iw (((),e,(0:Int),()),(a.1.1.1,a.1.1.2.1,a.1.1.2.2.1,a.1.1.2.2.2.1,()),())).bind fun f=>
(b4 f.1.2.1 ([10]:B)).bind fun g=>
(f181 ((f.2.1.2.2.2.1,()),())).bind fun h=>
(b4 g h.1.1).bind fun i=>
 some ((i,()),())
noncomputable def _z:aD:=aH ad Tryz.f172 i172 Yo [] f172
theorem asc:aB O 172 _z:=aK aan Tryz.func172 (by kernel_rfl) (a8 amy ae) (fun y=>by kernel_rfl) fun a=>by kernel_rfl
noncomputable abbrev ava:a_:=[(172,_z),(173,_y)]
theorem avV:aR O (aX ad ava):=aV ⟨asc,z173,⟨⟩⟩
abbrev i123:Shape:=⟨[b_ 0 [ah,ah,bn .need,bn .entry]],[],12⟩
abbrev YX:Shape:=⟨[ak 2],[],12⟩
noncomputable def f123(a:i123.J):Option YX.J:=
(f172 (((a.1.1.1,a.1.1.2.1,a.1.1.2.2.1,a.1.1.2.2.2.1,()),()),())).bind fun b=>
(f173 ((b.1.1,()),())).bind fun c=>
(b4 ([115,117,109,32]:B) c.1.1).bind fun d=>
(b4 d ([10]:B)).bind fun e=>
(b4 e b.1.1).bind fun f=>
 some ((f,()),())
noncomputable def LF:aD:=aH ad Tryz.f123 i123 YX [] f123
theorem Xc:aB O 123 LF:=aK avV Tryz.func123 (by kernel_rfl) ae (fun y=>by kernel_rfl) fun a=>by kernel_rfl
noncomputable abbrev azq:a_:=[(63,C0),(119,_4),(120,_3)]
theorem ade:aR O (aX ad azq):=aV ⟨J_,z119,asv,⟨⟩⟩
abbrev Ac:Shape:=⟨[ay 1 1 0,ay 3 3 0,aL 16 .need,ag 17,ag 18],[ax 1 [ah,ah,bn .need,bn .entry],bp 5000193 .u8 3 1,ax 3 [.dz,.own 5000193]],34⟩
abbrev Hq:List aP:=[(.exit 0,⟨[ay 1 1 0,ay 3 3 0],[ax 1 [ah,ah,bn .need,bn .entry],bp 5000193 .u8 3 1,ax 3 [.dz,.own 5000193]],34⟩)]
noncomputable def A5(y:Ac.J):bG Ac Hq:=
 bif(decide (y.1.2.2.2.2.1<y.1.2.2.2.1)) then
(aO y.1.2.2.1 y.1.2.2.2.2.1).bind fun a=>
(f119 (((a.name,a.kind,a.aW,()),()),())).bind fun b=>
(b4 ([110,101,101,100,32]:B) b.1.1).bind fun c=>
(b4 c ([10]:B)).bind fun d=>
(mm (((),d,()),y.2.2.1,((),(),()),())).bind fun e=>
 some (.inl (((),(),y.1.2.2.1,y.1.2.2.2.1,(IntKind.i64.wrap (y.1.2.2.2.2.1+(1:Int))),()),(y.2.1.1,y.2.1.2.1,y.2.1.2.2.1,y.2.1.2.2.2.1,()),e.2.1,((),(),()),()))
else
 some (.inr (((),(),()),(y.2.1.1,y.2.1.2.1,y.2.1.2.2.1,y.2.1.2.2.2.1,()),y.2.2.1,((),(),()),()))
noncomputable def Ii:Ac.J->Option (aC Hq):=bu A5
theorem al2:aT O (an (codeOf Tryz.f68) 1 122) (aU Ac Hq Ii):=bI ade (by kernel_rfl) ae fun y=>by kernel_rfl
abbrev i68:Shape:=⟨[b_ 0 [ah,ah,bn .need,bn .entry]],[],34⟩
abbrev abh:Shape:=⟨[ak 2],[],34⟩
noncomputable def f68(a:i68.J):Option abh.J:=
(b4 ([112,97,99,107,32]:B) a.1.1.1).bind fun b=>
(b4 b ([32]:B)).bind fun c=>
(b4 c a.1.1.2.1).bind fun d=>
(b4 d ([10]:B)).bind fun e=>
(mm (((),e,()),([]:List Int),((),(),()),())).bind fun f=>
(Ii (((),(),a.1.1.2.2.1,(a.1.1.2.2.1.length:Int),(0:Int),()),(a.1.1.1,a.1.1.2.1,a.1.1.2.2.1,a.1.1.2.2.2.1,()),f.2.1,((),(),()),())).bind fun g=>
(f120 ((g.2.1.2.2.2.1,()),())).bind fun h=>
(b4 ([10]:B) h.1.1).bind fun i=>
(mm (((),i,()),g.2.2.1,((),(),()),())).bind fun j=>
 some (((strOf j.2.1),()),())
noncomputable def acP:aD:=aH ad Tryz.f68 i68 abh [] f68
theorem awc:aB O 68 acP:=aK ade Tryz.func68 (by kernel_rfl) (a8 al2 ae) (fun y=>by kernel_rfl) fun a=>by kernel_rfl
noncomputable abbrev azH:a_:=[(55,Ek),(68,acP),(69,acO)]
theorem az9:aR O (aX ad azH):=aV ⟨LX,awc,awb,⟨⟩⟩
abbrev i36:Shape:=⟨[b_ 0 [ah,ah,bn .need,bn .entry]],[],15⟩
abbrev aby:Shape:=⟨[ak 2],[],15⟩
noncomputable def f36(a:i36.J):Option aby.J:=
(f55 (((a.1.1.1,a.1.1.2.1,a.1.1.2.2.1,a.1.1.2.2.2.1,()),()),())).bind fun b=>
 bif(!b.1.1) then
 some ((([]:B),()),())
else
(f68 (((a.1.1.1,a.1.1.2.1,a.1.1.2.2.1,a.1.1.2.2.2.1,()),()),())).bind fun c=>
(f69 ((c.1.1,()),())).bind fun d=>
(b4 ([115,117,109,32]:B) d.1.1).bind fun e=>
(b4 e ([10]:B)).bind fun f=>
(b4 f c.1.1).bind fun g=>
 some ((g,()),())
noncomputable def Nj:aD:=aH ad Tryz.f36 i36 aby [] f36
theorem aaL:aB O 36 Nj:=aK az9 Tryz.func36 (by kernel_rfl) ae (fun y=>by kernel_rfl) fun a=>by kernel_rfl
noncomputable abbrev azo:a_:=[(83,xZ),(123,LF)]
theorem adb:aR O (aX ad azo):=aV ⟨DF,Xc,⟨⟩⟩
abbrev BR:Shape:=⟨[ay 1 1 0,ak 3,ag 4],[ax 1 [bn .pack]],28⟩
abbrev Ji:List aP:=[(.exit 0,⟨[ak 3],[],28⟩)]
noncomputable def Cg(y:BR.J):bG BR Ji:=
 bif(decide (y.1.2.2.1<(y.2.1.1.length:Int))) then
(aO y.2.1.1 y.1.2.2.1).bind fun a=>
(f123 (((a.name,a.aW,a.bi,a.bB,()),()),())).bind fun b=>
(f83 (((b.1.1.length:Int),()),())).bind fun c=>
(b4 y.1.2.1 c.1.1).bind fun d=>
(b4 d ([10]:B)).bind fun e=>
(b4 e b.1.1).bind fun f=>
 some (.inl (((),f,(IntKind.i64.wrap (y.1.2.2.1+(1:Int))),()),(y.2.1.1,()),()))
else
 some (.inr ((y.1.2.1,()),()))
noncomputable def JH:BR.J->Option (aC Ji):=bu Cg
theorem aoD:aT O (an (codeOf Tryz.f70) 1 58) (aU BR Ji JH):=bI adb (by kernel_rfl) ae fun y=>by kernel_rfl
abbrev i70:Shape:=⟨[b_ 0 [bn .pack]],[],28⟩
abbrev abf:Shape:=⟨[ak 2],[],28⟩
noncomputable def f70(a:i70.J):Option abf.J:=
(JH (((),([]:B),(0:Int),()),(a.1.1.1,()),())).bind fun b=>
 some ((b.1.1,()),())
noncomputable def Ej:aD:=aH ad Tryz.f70 i70 abf [] f70
theorem z70:aB O 70 Ej:=aK adb Tryz.func70 (by kernel_rfl) (a8 aoD ae) (fun y=>by kernel_rfl) fun a=>by kernel_rfl
noncomputable abbrev azG:a_:=[(30,uH),(70,Ej)]
theorem az8:aR O (aX ad azG):=aV ⟨xk,z70,⟨⟩⟩
abbrev i37:Shape:=⟨[b_ 0 [bn .pack]],[],8⟩
abbrev abx:Shape:=⟨[ak 2],[],8⟩
noncomputable def f37(a:i37.J):Option abx.J:=
(f30 (((a.1.1.1,()),()),())).bind fun b=>
 bif(!b.1.1) then
 some ((([]:B),()),())
else
(f70 (((a.1.1.1,()),()),())).bind fun c=>
 some ((c.1.1,()),())
noncomputable def ac1:aD:=aH ad Tryz.f37 i37 abx [] f37
theorem z37:aB O 37 ac1:=aK az8 Tryz.func37 (by kernel_rfl) ae (fun y=>by kernel_rfl) fun a=>by kernel_rfl
def dN(k:Int):B:=bif k==1 then [61] else bif k==2 then [62,61] else bif k==3 then [60] else []
theorem FM(k:Int):(dN k).length<=2:=by unfold dN;cases k==1<;>cases k==2<;>cases k==3<;>decide
def cK(n:bx):B:=n.name++dN n.kind++n.aW
theorem Ri(k:Int):f225 ((k,()),())=some ((dN k,()),()):=by
 simp only[f225,dN];cases k==1<;>cases k==2<;>cases k==3<;>rfl
theorem GI{n:bx}(hb:x3 n):(cK n).length<=4194306:=by
 have:=FM n.kind;have h1:=hb.1;have h2:=hb.2;unfold cK;simp;omega
theorem Sz(n:bx)(hb:x3 n):f218 (((n.name,(n.kind,(n.aW,()))),()),())=some ((cK n,()),()):=by
 have:=FM n.kind;have h1:=hb.1;have h2:=hb.2;have axD:=Ri n.kind;simp only[f218,axD,Option.bind_some];rw[du (by omega),Option.bind_some,du (by simp;omega)]
 rfl
theorem ag0{n:bx}(h:dD n=true)(h1:(n.kind==1)=false)(h2:(n.kind==2)=false)(h3:(n.kind==3)=false):n.aW=[]:=by
 unfold dD at h;simp only[Bool.and_eq_true,Bool.or_eq_true] at h;rcases h.2 with h|h
 ·exact eq_of_beq h.2
 ·have:=sH h.1;simp at h1 h2 h3;omega
theorem ahR(n:bx)(hb:x3 n)(fI:dD n=true):f119 (((n.name,(n.kind,(n.aW,()))),()),())=some ((cK n,()),()):=by
 have h0:=yS (((n.name,(n.kind,(n.aW,()))),()),()) hb.1 hb.2;have h0:f102 (((n.name,(n.kind,(n.aW,()))),()),())=some ((dD n,()),()):=h0;have h1:=hb.1;have h2:=hb.2;simp only[f119,h0,fI,Option.bind_some,Bool.not_true,cond_false,cK,dN];cases aE:(n.kind==1) with
 |true=>
  simp only[cond_true];rw[du (by simp;omega),Option.bind_some,du (by simp;omega)]
  rfl
 |false=>
  cases aF:(n.kind==2) with
  |true=>
   simp only[cond_true,cond_false];rw[du (by simp;omega),Option.bind_some,du (by simp;omega)]
   rfl
  |false=>
   cases bJ:(n.kind==3) with
   |true=>
    simp only[cond_true,cond_false];rw[du (by simp;omega),Option.bind_some,du (by simp;omega)]
    rfl
   |false=>simp only[cond_false,ag0 fI aE aF bJ,List.append_nil]
def cz(n:bx):B:=[110,101,101,100,32]++cK n++[10]
theorem aiN{n:bx}(hb:x3 n):(cz n).length<=4194312:=by
 have:=GI hb;unfold cz;simp;omega
def il(p:aG):B:=[112,97,99,107,32]++p.name++[32]++p.aW++[10]
def dv(p:aG):B:=il p++p.bi.flatMap cz++[10]++dd p.bB
def bw(p:aG):B:=[115,117,109,32]++pI (dv p)++[10]++dv p
def cG(s:B):B:=Lib.itoa (s.length:Int)++[10]++s
def b8(ps:List aG):B:=ps.flatMap fun p=>cG (bw p)
theorem mW{p:aG}(h:cj p=true):iD p.name=true/\ei p.aW=true/\(∀n,n∈p.bi->dD n=true)/\p.bi.length<=6/\j0 [] (p.name::p.bi.map (·.name))=false/\dC p.bB=true:=by
 unfold cj at h;simp only[Bool.and_eq_true] at h;obtain⟨⟨⟨h1,h2⟩,h3⟩,aA⟩:=h;unfold qP at h3;simp only[Bool.and_eq_true,decide_eq_true_eq,List.all_eq_true,Bool.not_eq_true'] at h3;exact⟨h1,h2,h3.1.1,h3.1.2,h3.2,aA⟩
theorem qu{t:List aw}(h:dC t=true):∀e,e∈t->nU e:=fun e he=>He (u7 h e he)
theorem u0{ns:List bx}(hb:ua ns)(hl:ns.length<=6)(i:Nat):((ns.take i).flatMap cz).length<=25165872:=by
 have h1:=m' (f:=cz) (xs:=ns.take i) (n:=4194312) fun n hn=>aiN (hb.2 n (qz hn))
 have h2:=(List.take_sublist i ns).length_le;exact Nat.le_trans h1 (by omega)
theorem Ge{p:aG}(hb:jD p)(hk:cj p=true):(dv p).length<=100663296:=by
 obtain⟨_,_,_,ca,_,aq⟩:=mW hk;have h1:=u0 hb.2.2.1 ca p.bi.length;rw[List.take_length] at h1;have h2:=yK (qu aq) hb.2.2.2 (jJ aq);have h3:=hb.1;have aA:=hb.2.1;unfold dv il;generalize p.bi.flatMap cz=A at h1 ⊢;generalize dd p.bB=bq at h2 ⊢;simp;omega
theorem zK{p:aG}(hb:jD p)(hk:cj p=true):(bw p).length<=100663400:=by
 have:=Ge hb hk;unfold bw;generalize dv p=bq at this ⊢;simp[zn];omega
theorem ajw(p:aG)(hb:jD p)(hk:cj p=true):f172 (((p.name,(p.aW,(p.bi,(p.bB,())))),()),())=some ((dv p,()),()):=by
 obtain⟨_,_,hn,ca,_,aq⟩:=mW hk;have h3:=hb.1;have aA:=hb.2.1;have Ey:=Fv p.bB (qu aq) hb.2.2.2 (jJ aq);have axY:(il p).length<=4194320:=by unfold il;simp;omega
 have aE:Iw (((),(il p,((0:Int),()))),((p.name,(p.aW,(p.bi,(p.bB,())))),()))=some (((),(il p++p.bi.flatMap cz,())),((p.name,(p.aW,(p.bi,(p.bB,())))),())):=by
  have:=fK (g:=Bc) (fun i=>(((),(il p++(p.bi.take i).flatMap cz,((i:Int),()))),((p.name,(p.aW,(p.bi,(p.bB,())))),()))) p.bi.length (b:=(((),(il p++p.bi.flatMap cz,())),((p.name,(p.aW,(p.bi,(p.bB,())))),()))) (fun i hi=>?_) ?_ p.bi.length 0 (by omega)
  ·rw[List.take_zero,List.flatMap_nil,List.append_nil] at this;exact this
  ·obtain⟨n,he⟩:∃n,p.bi[i]? =some n:=⟨p.bi[i],List.getElem?_eq_getElem hi⟩;have en:=List.mem_of_getElem? he;have iL:=u0 hb.2.2.1 ca i;have hA:=GI (hb.2.2.1.2 n en);simp only[Bc,cf hi,cond_true,b5,he,Option.bind_some,Sz n (hb.2.2.1.2 n en),mX cz he,bX (i:=i) (by unfold au;omega)]
   generalize List.flatMap cz (List.take i p.bi)=A at iL ⊢;rw[du (by simp;omega),Option.bind_some,du (by simp;omega),Option.bind_some,du (by simp;omega),Option.bind_some]
   simp only[cz,List.append_assoc]
  ·simp only[Bc,dx,cond_false,List.take_length]
 have iL:=u0 hb.2.2.1 ca p.bi.length;rw[List.take_length] at iL;have h2:=yK (qu aq) hb.2.2.2 (jJ aq);have bL:il p=[112,97,99,107,32]++p.name++[32]++p.aW++[10]:=rfl;simp only[f172];repeat(rw[du (by simp;omega),Option.bind_some])
 rw[<-bL,aE];simp only[Option.bind_some,dv];generalize p.bi.flatMap cz=A at iL ⊢;rw[du (by simp;omega),Option.bind_some,Ey,Option.bind_some]
 generalize dd p.bB=bq at h2 ⊢;rw[du (by simp;omega)]
 rfl
theorem Hm(p:aG)(hb:jD p)(hk:cj p=true):f123 (((p.name,(p.aW,(p.bi,(p.bB,())))),()),())=some ((bw p,()),()):=by
 have hl:=Ge hb hk;have h1:=aqn (dv p) (by unfold qj;omega)
 have hs:=zn (dv p);simp only[f123,ajw p hb hk,h1,Option.bind_some,bw];generalize pI (dv p)=S at hs ⊢;generalize dv p=bq at hl ⊢;rw[du (by simp;omega),Option.bind_some,du (by simp;omega),Option.bind_some,du (by simp;omega)]
 rfl
theorem agr(p:aG)(hb:jD p)(hk:cj p=true):f68 (((p.name,(p.aW,(p.bi,(p.bB,())))),()),())=some ((dv p,()),()):=by
 obtain⟨_,_,hn,ca,_,aq⟩:=mW hk;have h3:=hb.1;have aA:=hb.2.1;have Ey:=afB p.bB hb.2.2.2;rw[aq] at Ey;have axY:(il p).length<=4194320:=by unfold il;simp;omega
 have aE:Ii (((),((),(p.bi,((p.bi.length:Int),((0:Int),()))))),((p.name,(p.aW,(p.bi,(p.bB,())))),(bytesOf (il p),(((),((),())),()))))=some (((),((),())),((p.name,(p.aW,(p.bi,(p.bB,())))),(bytesOf (il p++p.bi.flatMap cz),(((),((),())),())))):=by
  have:=fK (g:=A5) (fun i=>(((),((),(p.bi,((p.bi.length:Int),((i:Int),()))))),((p.name,(p.aW,(p.bi,(p.bB,())))),(bytesOf (il p++(p.bi.take i).flatMap cz),(((),((),())),()))))) p.bi.length (b:=(((),((),())),((p.name,(p.aW,(p.bi,(p.bB,())))),(bytesOf (il p++p.bi.flatMap cz),(((),((),())),()))))) (fun i hi=>?_) ?_ p.bi.length 0 (by omega)
  ·rw[List.take_zero,List.flatMap_nil,List.append_nil] at this;exact this
  ·obtain⟨n,he⟩:∃n,p.bi[i]? =some n:=⟨p.bi[i],List.getElem?_eq_getElem hi⟩;have en:=List.mem_of_getElem? he;have iL:=u0 hb.2.2.1 ca i;have hA:=GI (hb.2.2.1.2 n en);simp only[A5,cf hi,cond_true,b5,he,Option.bind_some,ahR n (hb.2.2.1.2 n en) (hn n en),mX cz he,bX (i:=i) (by unfold au;omega)]
   generalize List.flatMap cz (List.take i p.bi)=A at iL ⊢;rw[du (by simp;omega),Option.bind_some,du (by simp;omega),Option.bind_some,pi _ _ (by unfold au;rw[ji];simp;omega),Option.bind_some,<-List.append_assoc,o8 (il p++A)]
   rfl
  ·simp only[A5,dx,cond_false,List.take_length]
 have iL:=u0 hb.2.2.1 ca p.bi.length;rw[List.take_length] at iL;have h2:=yK (qu aq) hb.2.2.2 (jJ aq);have bL:il p=[112,97,99,107,32]++p.name++[32]++p.aW++[10]:=rfl;simp only[f68];repeat(rw[du (by simp;omega),Option.bind_some])
 rw[<-bL,pi _ _ (by unfold au;simp;omega),Option.bind_some]
 simp only[List.nil_append,aE,Option.bind_some,Ey,cond_true,dv];generalize p.bi.flatMap cz=A at iL ⊢;generalize dd p.bB=bq at h2 ⊢;rw[du (by simp;omega),Option.bind_some,pi _ _ (by unfold au;rw[ji];simp;omega),Option.bind_some]
 rw[<-o8,u4,List.append_assoc _ [10] bq]
theorem E9(p:aG)(hb:jD p):f36 (((p.name,(p.aW,(p.bi,(p.bB,())))),()),())=some ((bif cj p then bw p else [],()),()):=by
 have h0:=yR (((p.name,(p.aW,(p.bi,(p.bB,())))),()),()) hb;have h0:f55 (((p.name,(p.aW,(p.bi,(p.bB,())))),()),())=some ((cj p,()),()):=h0;simp only[f36,h0,Option.bind_some];cases hk:cj p with
 |false=>rfl
 |true=>
  have hl:=Ge hb hk;have h1:=aof (dv p) (by unfold qj;omega)
  have hs:=zn (dv p);simp only[Bool.not_true,cond_false,cond_true,agr p hb hk,h1,Option.bind_some,bw];generalize pI (dv p)=S at hs ⊢;generalize dv p=bq at hl ⊢;rw[du (by simp;omega),Option.bind_some,du (by simp;omega),Option.bind_some,du (by simp;omega)]
  rfl
theorem FL{p:aG}(hb:jD p)(hk:cj p=true):(cG (bw p)).length<=100663500:=by
 have h1:=zK hb hk;have h2:=jK (bw p).length (by omega)
 unfold cG;simp;omega
theorem aes{ps:List aG}(hb:fb ps)(hk:∀p,p∈ps->cj p=true)(i:Nat):((ps.take i).flatMap fun p=>cG (bw p)).length<=211106660352000:=by
 have h1:=m' (f:=fun p=>cG (bw p)) (xs:=ps.take i) (n:=100663500) fun p hp=>FL (hb.2 p (qz hp)) (hk p (qz hp))
 have h2:=(List.take_sublist i ps).length_le;have h3:ps.length<=2097152:=hb.1;have aA:(ps.take i).length*100663500<=2097152*100663500:=Nat.mul_le_mul_right _ (by omega)
 omega
theorem z_(ps:List aG)(hb:fb ps)(hk:∀p,p∈ps->cj p=true):f70 (((ps,()),()),())=some ((b8 ps,()),()):=by
 have aE:JH (((),(([]:B),((0:Int),()))),((ps,()),()))=some ((b8 ps,()),()):=by
  refine fK (g:=Cg) (fun i=>(((),((ps.take i).flatMap (fun p=>cG (bw p)),((i:Int),()))),((ps,()),()))) ps.length (fun i hi=>?_) ?_ ps.length 0 (by omega)
  ·obtain⟨p,he⟩:∃p,ps[i]? =some p:=⟨ps[i],List.getElem?_eq_getElem hi⟩;have en:=List.mem_of_getElem? he;have iL:=aes hb hk i;have hA:=zK (hb.2 p en) (hk p en);have h2:=jK (bw p).length (by omega)
   have oI:=hb.1;simp only[Cg,cf hi,cond_true,b5,he,Option.bind_some,Hm p (hb.2 p en) (hk p en),z' (bw p).length (by omega),mX (fun p=>cG (bw p)) he,bX (i:=i) (by unfold au;omega)]
   generalize List.flatMap (fun p=>cG (bw p)) (List.take i ps)=A at iL ⊢
   rw[du (by omega),Option.bind_some,du (by simp;omega),Option.bind_some,du (by simp;omega),Option.bind_some]
   simp only[cG,List.append_assoc]
  ·simp only[Cg,dx,cond_false,List.take_length];rfl
 simp only[f70,aE,Option.bind_some]
theorem kb{ps:List aG}(h:ej ps=true):(∀p,p∈ps->cj p=true)/\ps.length<=5:=by
 unfold ej at h;simp only[Bool.and_eq_true,decide_eq_true_eq,List.all_eq_true] at h;exact⟨h.1.1.1.1,h.1.1.2⟩
theorem ahO(ps:List aG)(hb:fb ps)(hv:jI ps):f37 (((ps,()),()),())=some ((bif ej ps then b8 ps else [],()),()):=by
 have h0:=vp (((ps,()),()),()) hb hv;have h0:f30 (((ps,()),()),())=some ((ej ps,()),()):=h0;simp only[f37,h0,Option.bind_some];cases hr:ej ps with
 |false=>rfl
 |true=>simp only[Bool.not_true,cond_false,cond_true,z_ ps hb (kb hr).1,Option.bind_some]
def b'(c:UInt8)(s:B):Prop:=∀x,x∈s->x≠c
theorem b'.cY{c:UInt8}{s t:B}(h:b' c s)(k:b' c t):b' c (s++t):=fun x hx=>(List.mem_append.1 hx).elim (h x) (k x)
theorem b'.nil(c:UInt8):b' c []:=fun x hx=>by cases hx
theorem b'.tail{c b:UInt8}{s:B}(h:b' c (b::s)):b' c s:=fun x hx=>h x (List.mem_cons_of_mem _ hx)
theorem b'.head{c b:UInt8}{s:B}(h:b' c (b::s)):(b==c)=false:=by
 have:=h b List.mem_cons_self;simpa using this
theorem b'.lit{c:UInt8}{s:B}(h:s.all (fun x=>!(x==c))=true):b' c s:=fun x hx=>by
 have:=List.all_eq_true.1 h x hx;simpa using this
theorem Qq{c:UInt8}:∀{s:B},b' c s->bF c s=[s]:=by
 intro s;induction s with
 |nil=>intro _;rfl
 |cons b r ih=>
  intro h;unfold bF;rw[h.head,ih h.tail];rfl
theorem O1(c b:UInt8)(r:B):bF c (b::r)=bif b==c then []::bF c r else match bF c r with|x::xs=>(b::x)::xs|[]=>[[b]]:=rfl
theorem su{c:UInt8}{b:B}:∀{a:B},b' c a->bF c (a++c::b)=a::bF c b:=by
 intro a;induction a with
 |nil=>intro _;show bF c (c::b)=_;rw[O1,beq_self_eq_true];rfl
 |cons x r ih=>
  intro h;show bF c (x::(r++c::b))=_;rw[O1,h.head,ih h.tail];rfl
theorem Py{c x:UInt8}:∀{s:B},x∈s->x≠c->∃p,p∈bF c s/\x∈p:=by
 intro s;induction s with
 |nil=>intro h;cases h
 |cons b r ih=>
  intro h hx;unfold bF;cases hb:b==c with
  |true=>
   have hb:=eq_of_beq hb;rcases List.mem_cons.1 h with rfl|h
   ·exact absurd hb hx
   ·obtain⟨p,h1,h2⟩:=ih h hx;exact⟨p,List.mem_cons_of_mem _ h1,h2⟩
  |false=>
   simp only[cond_false];have hne:=o9 c r;split
   ·rename_i y bj hy;rcases List.mem_cons.1 h with rfl|h
    ·exact⟨_,List.mem_cons_self,List.mem_cons_self⟩
    ·obtain⟨p,h1,h2⟩:=ih h hx;rw[hy] at h1;rcases List.mem_cons.1 h1 with rfl|h1
     ·exact⟨_,List.mem_cons_self,List.mem_cons_of_mem _ h2⟩
     ·exact⟨p,List.mem_cons_of_mem _ h1,h2⟩
   ·rename_i hy;exact absurd hy hne
def dw(c:UInt8):B->Option (B×B)
 |[]=>none
 |b::r=>bif b==c then some ([],r) else match dw c r with
  |some (x,y)=>some (b::x,y)
  |none=>none
theorem anE{c:UInt8}:∀{s:B},b' c s->dw c s=none:=by
 intro s;induction s with
 |nil=>intro _;rfl
 |cons b r ih=>intro h;simp only[dw,h.head,cond_false,ih h.tail]
theorem sM{c:UInt8}{b:B}:∀{a:B},b' c a->dw c (a++c::b)=some (a,b):=by
 intro a;induction a with
 |nil=>intro _;simp[dw]
 |cons x r ih=>intro h;show dw c (x::(r++c::b))=_;simp only[dw,h.head,cond_false,ih h.tail]
theorem jk{c:UInt8}:∀{s x y:B},dw c s=some (x,y)->s=x++c::y/\b' c x:=by
 intro s;induction s with
 |nil=>intro x y h;cases h
 |cons b r ih=>
  intro x y h;simp only[dw] at h;cases hb:b==c with
  |true=>
   rw[hb] at h;simp only[cond_true,Option.some.injEq,Prod.mk.injEq] at h;obtain⟨rfl,rfl⟩:=h;exact⟨by rw[eq_of_beq hb];rfl,b'.nil c⟩
  |false=>
   rw[hb] at h;simp only[cond_false] at h;split at h
   ·rename_i iy y' hc;cases h;obtain⟨h1,h2⟩:=ih hc;refine⟨by rw[h1];rfl,fun z hz=>?_⟩
    rcases List.mem_cons.1 hz with rfl|hz
    ·simpa using hb
    ·exact h2 z hz
   ·cases h
theorem aji{c:UInt8}:∀{s:B},dw c s=none->b' c s:=by
 intro s;induction s with
 |nil=>intro _;exact b'.nil c
 |cons b r ih=>
  intro h;simp only[dw] at h;cases hb:b==c with
  |true=>rw[hb] at h;cases h
  |false=>
   rw[hb] at h;simp only[cond_false] at h;split at h
   ·cases h
   ·rename_i hc;intro z hz;rcases List.mem_cons.1 hz with rfl|hz
    ·simpa using hb
    ·exact ih hc z hz
theorem TO(c:UInt8):∀s:B,Lib.indexByte s c=match dw c s with|some (x,_)=>(x.length:Int)|none=>-1:=by
 intro s;induction s with
 |nil=>rfl
 |cons b r ih=>
  simp only[dw];unfold Lib.indexByte;cases hb:b==c with
  |true=>simp
  |false=>
   rw[ih];simp only[cond_false];cases hc:dw c r with
   |none=>simp
   |some q=>obtain⟨x,y⟩:=q;simp
theorem Pz(c:UInt8)(s:B):bF c s=match dw c s with|some (x,y)=>x::bF c y|none=>[s]:=by
 cases h:dw c s with
 |none=>exact Qq (aji h)
 |some q=>
  obtain⟨x,y⟩:=q;obtain⟨h1,h2⟩:=jk h;show bF c s=x::bF c y;rw[h1];exact su h2
theorem EU{s:B}(h:iD s=true):∀x,x∈s->(97<=x.toNat/\x.toNat<=122)\/(48<=x.toNat/\x.toNat<=57):=by
 cases s with
 |nil=>cases h
 |cons b r=>
  rw[O8] at h;simp only[Bool.and_eq_true] at h;intro x hx;have:=List.all_eq_true.1 h.1.2 x hx;simp only[iW,cP,Bool.or_eq_true,Bool.and_eq_true,decide_eq_true_eq] at this;omega
theorem QK{s:B}(h:iD s=true){c:UInt8}(hc:c.toNat<48\/(57<c.toNat/\c.toNat<97)):b' c s:=fun x hx e=>by
 have:=EU h x hx;rw[e] at this;omega
theorem aeO{s:B}(h:ei s=true):∀x,x∈s->x=46\/(48<=x.toNat/\x.toNat<=57):=by
 intro x hx;by_cases he:x=46
 ·exact .inl he
 ·obtain⟨p,h1,h2⟩:=Py hx he;unfold ei ij at h;simp only[Bool.and_eq_true] at h;have:=List.all_eq_true.1 h.1 p h1;unfold fA at this;simp only[Bool.and_eq_true] at this;have:=iP (List.all_eq_true.1 this.1.1.1.1 x h2);exact .inr (by omega)
theorem PZ{s:B}(h:ei s=true){c:UInt8}(hc:c.toNat<48\/57<c.toNat)(Z:c≠46):b' c s:=fun x hx e=>by
 rcases aeO h x hx with h1|h1
 ·exact Z (e▸h1)
 ·rw[e] at h1;omega
theorem QL{s:B}(h:gn s=true){c:UInt8}(hc:kg c.toNat=false)(Z:c≠47):b' c s:=fun x hx e=>by
 subst e;obtain⟨p,h1,h2⟩:=Py hx Z;unfold gn at h;simp only[Bool.and_eq_true] at h;have:=List.all_eq_true.1 h.1 p h1;unfold kn at this;simp only[Bool.and_eq_true] at this;have:=List.all_eq_true.1 this.1.1.1 x h2;rw[hc] at this;cases this
theorem I3:∀n:Nat,(Lib.decDigits n).all cP=true:=by
 intro n;induction n using Nat.strongRecOn with
 |_ n ih=>
  have Z:∀m:Nat,m<10->cP (UInt8.ofNat (48+m))=true:=fun m hm=>by
   unfold cP;have:(UInt8.ofNat (48+m)).toNat=48+m:=by rw[UInt8.toNat_ofNat'];omega
   rw[this];simp;omega
  rw[Lib.decDigits];split
  ·rename_i h;show(cP _&&true)=true;rw[Z n h];rfl
  ·rename_i h;rw[List.all_append,ih (n/10) (by omega)]
   show(true&&(cP _&&true))=true;rw[Z (n%10) (by omega)];rfl
theorem VJ(n:Nat):Lib.decDigits n≠[]:=by
 rw[Lib.decDigits];split<;>simp
theorem vT:∀n:Nat,de (Lib.decDigits n)=(n:Int):=by
 intro n;induction n using Nat.strongRecOn with
 |_ n ih=>
  have Z:∀m:Nat,m<10->((UInt8.ofNat (48+m)).toNat:Int)-48=(m:Int):=fun m hm=>by
   have:(UInt8.ofNat (48+m)).toNat=48+m:=by rw[UInt8.toNat_ofNat'];omega
   rw[this];omega
  rw[Lib.decDigits];split
  ·rename_i h;show ef 0 _=_;unfold ef;rw[Z n h];omega
  ·rename_i h;have:=ih (n/10) (by omega)
   unfold de at this ⊢;rw[List.foldl_append,this];show ef _ _=_;unfold ef;rw[Z (n%10) (by omega)];omega
theorem ajh:∀n:Nat,1<=n->∃b r,Lib.decDigits n=b::r/\((b.toNat:Int)==48)=false:=by
 intro n;induction n using Nat.strongRecOn with
 |_ n ih=>
  intro hn;rw[Lib.decDigits];split
  ·rename_i h;refine⟨_,[],rfl,?_⟩;have:(UInt8.ofNat (48+n)).toNat=48+n:=by rw[UInt8.toNat_ofNat'];omega
   rw[this,beq_eq_false_iff_ne];omega
  ·rename_i h;obtain⟨b,r,h1,h2⟩:=ih (n/10) (by omega) (by omega)
   rw[h1];exact⟨b,_,rfl,h2⟩
theorem Sr(n:Nat):ik (Lib.decDigits n)=false:=by
 by_cases h:n<10
 ·rw[Lib.decDigits,dif_pos h];rfl
 ·obtain⟨b,r,h1,h2⟩:=ajh n (by omega)
  rw[h1];cases r with
  |nil=>rfl
  |cons x r=>exact h2
theorem Hg:∀(k n:Nat),n<10^(k+1)->(Lib.decDigits n).length<=k+1:=by
 intro k;induction k with
 |zero=>intro n h;rw[Lib.decDigits,dif_pos (by omega)];simp
 |succ k ih=>
  intro n h;rw[Lib.decDigits];split
  ·simp
  ·have:=ih (n/10) (by rw[Nat.pow_succ] at h;omega)
   simp;omega
theorem apo(n:Nat){c:UInt8}(hc:c.toNat<48\/57<c.toNat):b' c (Lib.decDigits n):=fun x hx e=>by
 have:=iP (List.all_eq_true.1 (I3 n) x hx);rw[e] at this;omega
theorem TM(n:Nat){c:UInt8}(hc:c.toNat<48\/57<c.toNat):b' c (Lib.itoa (n:Int)):=by rw[n6];exact apo n hc
theorem anw:∀k:Nat,k<16->jt k≠10/\jt k≠32:=by decide
theorem TP(w:Int):b' 10 (fQ w):=fun x hx=>by
 simp only[fQ,List.mem_cons,List.not_mem_nil,or_false] at hx;rcases hx with rfl|rfl|rfl|rfl|rfl|rfl|rfl|rfl<;>exact(anw _ (Nat.mod_lt _ (by decide))).1
theorem SY(s:B):b' 10 (pI s):=(TP _).cY (TP _)
def hX:B:=[100,105,114]
def hU:B:=[108,105,110,107]
def im:B:=[102,105,108,101]
def me(e:aw):List B:=bif e.kind==1 then [hX,Lib.itoa e.mode,e.path] else bif e.kind==3 then [hU,e.path,e.text] else [im,Lib.itoa e.mode,e.path,Lib.itoa (e.text.length:Int)]
def lD:List B->B
 |[]=>[]
 |[x]=>x
 |x::y::r=>x++32::lD (y::r)
def py(e:aw):B:=lD (me e)
theorem PJ:∀{ws:List B},ws≠[]->(∀w,w∈ws->b' 32 w)->bF 32 (lD ws)=ws:=by
 intro ws;induction ws with
 |nil=>intro h;exact absurd rfl h
 |cons x r ih=>
  intro _ h;cases r with
  |nil=>exact Qq (h x List.mem_cons_self)
  |cons y r=>
   show bF 32 (x++32::lD (y::r))=_;rw[su (h x List.mem_cons_self),ih (by simp) fun w hw=>h w (List.mem_cons_of_mem _ hw)]
theorem TL{c:UInt8}(hc:c≠32):∀{ws:List B},(∀w,w∈ws->b' c w)->b' c (lD ws):=by
 intro ws;induction ws with
 |nil=>intro _;exact b'.nil c
 |cons x r ih=>
  intro h;cases r with
  |nil=>exact h x List.mem_cons_self
  |cons y r=>
   refine(h x List.mem_cons_self).cY fun z hz=>?_
   rcases List.mem_cons.1 hz with rfl|hz
   ·exact fun e=>hc e.symm
   ·exact ih (fun w hw=>h w (List.mem_cons_of_mem _ hw)) z hz
theorem ahh{e:aw}(h:eN e=true):gn e.path=true:=by
 unfold eN at h;simp only[Bool.and_eq_true] at h;exact h.1
theorem Fo{e:aw}(h:eN e=true)(hk:e.kind=3):gn e.text=true/\e.mode=0:=by
 unfold eN at h;rw[hk] at h;simp only[Bool.and_eq_true] at h;have h2:((e.mode==0)&&gn e.text)=true:=h.2;simp only[Bool.and_eq_true,beq_iff_eq] at h2;exact⟨h2.2,h2.1⟩
theorem Q4{e:aw}(h:eN e=true)(hk:e.kind=1):e.text=[]:=by
 unfold eN at h;rw[hk] at h;simp only[Bool.and_eq_true] at h;have h2:(within e.mode 0 7&&e.text==[])=true:=h.2;simp only[Bool.and_eq_true] at h2;exact eq_of_beq h2.2
theorem PP{e:aw}(h:eN e=true)(hk:e.kind=2):oh e.text=true:=by
 unfold eN at h;rw[hk] at h;simp only[Bool.and_eq_true] at h;have h2:(within e.mode 0 7&&oh e.text)=true:=h.2;simp only[Bool.and_eq_true] at h2;exact h2.2
theorem GL{e:aw}(h:eN e=true):∃n:Nat,e.mode=n/\n<=7:=by
 have:=He h;obtain⟨n,hn⟩:=Int.eq_ofNat_of_zero_le this.1;exact⟨n,hn,by have:=this.2;omega⟩
theorem B0{s:B}(h:gn s=true):b' 32 s:=QL h (by decide) (by decide)
theorem B1{s:B}(h:gn s=true):b' 10 s:=QL h (by decide) (by decide)
theorem JM(n:Nat):b' 32 (Lib.itoa (n:Int)):=TM n (by decide)
theorem B6(n:Nat):b' 10 (Lib.itoa (n:Int)):=TM n (by decide)
theorem Ft{e:aw}(h:eN e=true):(∀w,w∈me e->b' 32 w)/\∀w,w∈me e->b' 10 w:=by
 obtain⟨n,hn,_⟩:=GL h;have hp:=ahh h;unfold me;rw[hn];rcases va h with hk|hk|hk<;>rw[hk]
 ·refine⟨fun w hw=>?_,fun w hw=>?_⟩<;>have hw:w∈[hX,Lib.itoa (n:Int),e.path]:=hw<;>simp only[List.mem_cons,List.not_mem_nil,or_false] at hw<;>rcases hw with rfl|rfl|rfl
  ·exact b'.lit (by decide)
  ·exact JM n
  ·exact B0 hp
  ·exact b'.lit (by decide)
  ·exact B6 n
  ·exact B1 hp
 ·refine⟨fun w hw=>?_,fun w hw=>?_⟩<;>have hw:w∈[im,Lib.itoa (n:Int),e.path,Lib.itoa (e.text.length:Int)]:=hw<;>simp only[List.mem_cons,List.not_mem_nil,or_false] at hw<;>rcases hw with rfl|rfl|rfl|rfl
  ·exact b'.lit (by decide)
  ·exact JM n
  ·exact B0 hp
  ·exact JM _
  ·exact b'.lit (by decide)
  ·exact B6 n
  ·exact B1 hp
  ·exact B6 _
 ·have aq:=(Fo h hk).1;refine⟨fun w hw=>?_,fun w hw=>?_⟩<;>have hw:w∈[hU,e.path,e.text]:=hw<;>simp only[List.mem_cons,List.not_mem_nil,or_false] at hw<;>rcases hw with rfl|rfl|rfl
  ·exact b'.lit (by decide)
  ·exact B0 hp
  ·exact B0 aq
  ·exact b'.lit (by decide)
  ·exact B1 hp
  ·exact B1 aq
theorem akY{e:aw}(h:eN e=true):b' 10 (py e):=TL (by decide) (Ft h).2
def wB(e:aw)(r:B):B:=bif e.kind==2 then e.text++10::r else r
theorem akX{e:aw}(h:eN e=true)(r:B):dY e++r=py e++10::wB e r:=by
 unfold dY py me wB;rcases va h with hk|hk|hk<;>rw[hk]
 ·simp[lD,hX]
 ·simp[lD,im]
 ·simp[lD,hU]
theorem QT{e:aw}(h:eN e=true)(r:B):dw 10 (dY e++r)=some (py e,wB e r):=by
 rw[akX h];exact sM (akY h)
def iF:B:=[112,97,99,107]
def fO:B:=[110,101,101,100]
def d'(p:aG):B:=lD [iF,p.name,p.aW]
theorem Xl{s:B}(h:iD s=true):b' 32 s:=QK h (by decide)
theorem Xm{s:B}(h:iD s=true):b' 10 s:=QK h (by decide)
theorem Xd{s:B}(h:ei s=true):b' 32 s:=PZ h (by decide) (by decide)
theorem Xe{s:B}(h:ei s=true):b' 10 s:=PZ h (by decide) (by decide)
theorem E5{p:aG}(h:cj p=true):bF 32 (d' p)=[iF,p.name,p.aW]:=by
 obtain⟨h1,h2,_⟩:=mW h;refine PJ (by simp) fun w hw=>?_
 simp only[List.mem_cons,List.not_mem_nil,or_false] at hw;rcases hw with rfl|rfl|rfl
 ·exact b'.lit (by decide)
 ·exact Xl h1
 ·exact Xd h2
theorem Sg{p:aG}(h:cj p=true):b' 10 (d' p):=by
 obtain⟨h1,h2,_⟩:=mW h;refine TL (by decide) fun w hw=>?_
 simp only[List.mem_cons,List.not_mem_nil,or_false] at hw;rcases hw with rfl|rfl|rfl
 ·exact b'.lit (by decide)
 ·exact Xm h1
 ·exact Xe h2
def iR(p:aG):B:=p.bi.flatMap cz++10::dd p.bB
theorem vx(p:aG):dv p=d' p++10::iR p:=by
 unfold dv il d' iR;simp[lD,iF]
theorem Ra{p:aG}(h:cj p=true):dw 10 (dv p)=some (d' p,iR p):=by rw[vx];exact sM (Sg h)
def eO(p:aG):B:=[115,117,109,32]++pI (dv p)
theorem vG(p:aG):bw p=eO p++10::dv p:=by unfold bw eO;simp
theorem akJ(p:aG):dw 10 (bw p)=some (eO p,dv p):=by
 rw[vG];exact sM ((b'.lit (by decide)).cY (SY _))
theorem yu{n:bx}(h:dD n=true):iD n.name=true/\((n.kind=0/\n.aW=[])\/((n.kind=1\/n.kind=2\/n.kind=3)/\ei n.aW=true)):=by
 unfold dD at h;simp only[Bool.and_eq_true,Bool.or_eq_true] at h;refine⟨h.1,?_⟩;rcases h.2 with h2|h2
 ·exact .inl ⟨eq_of_beq h2.1,eq_of_beq h2.2⟩
 ·exact .inr ⟨by have:=sH h2.1;omega,h2.2⟩
theorem Tj{n:bx}(h:dD n=true):b' 10 (cK n):=by
 obtain⟨h1,h2⟩:=yu h;have hs:b' 10 (dN n.kind):=by unfold dN;cases n.kind==1<;>cases n.kind==2<;>cases n.kind==3<;>exact b'.lit (by decide)
 refine((Xm h1).cY hs).cY ?_
 rcases h2 with⟨_,h2⟩|⟨_,h2⟩
 ·rw[h2];exact b'.nil _
 ·exact Xe h2
theorem aiO{n:bx}(h:dD n=true)(r:B):dw 10 (cz n++r)=some (fO++32::cK n,r):=by
 have:cz n++r=(fO++32::cK n)++10::r:=by unfold cz fO;simp
 rw[this];refine sM ((b'.lit (by decide)).cY fun z hz=>?_)
 rcases List.mem_cons.1 hz with rfl|hz
 ·decide
 ·exact Tj h z hz
theorem Jx(r:B):dw 10 (10::r)=some ([],r):=by simp[dw]
theorem aiM{n:bx}{ns:List bx}{r:B}(h:dD n=true):dw 10 ((n::ns).flatMap cz++r)=some (fO++32::cK n,ns.flatMap cz++r):=by
 rw[List.flatMap_cons,List.append_assoc];exact aiO h _
theorem yW(s r:B):dw 10 (cG s++r)=some (Lib.itoa (s.length:Int),s++r):=by
 have:cG s++r=Lib.itoa (s.length:Int)++10::(s++r):=by unfold cG;simp
 rw[this];exact sM (B6 _)
def fl(m:Int)(s:B):Bool:=s.all cP&&!(s==[])&&!ik s&&decide (s.length<=9)&&decide (de s<=m)
theorem yP(s:B)(m:Int)(hs:au s.length):f115 ((s,(m,())),())=some ((bif fl m s then de s else 0,(fl m s,())),()):=by
 have key:s.length<=9->sK ((s,(m,((0:Int),((s.length:Int),((0:Int),()))))),())=some (bif allI (fun i x=>cP x) 0 s then .inr ((m,(de s,())),()) else .inl (((0:Int),(false,())),())):=by
  intro ib;have:=l_ qG s (fun i n=>((s,(m,(n,((s.length:Int),((i:Int),()))))),())) (fun i x n=>some (bif cP x then .inl (ef n x) else .inr (.inl (((0:Int),(false,())),())))) (fun n=>.inr ((m,(n,())),()))
   (fun i n=>0<=n/\n<10^i/\(i<=9)) (0:Int) ⟨by decide,by decide,by decide⟩ (fun i x n hx dr=>?_) (fun n _=>?_)
  ·exact this.trans (by rw[yz];rfl)
  ·have hi:=cU hx;have hw:au i:=by unfold au at*;omega
   obtain⟨h0,h1,ca⟩:=dr;refine⟨?_,fun aN aj=>?_⟩
   ·simp only[qG,cf hi,cond_true,yM,b5,hx,Option.bind_some,bX hw,oO,nN,M6];cases Z:cP x with
    |false=>
     unfold cP at Z;by_cases aA:(48:Int)<=(x.toNat:Int)<;>by_cases bl:(x.toNat:Int)<=57<;>simp[aA,bl] at Z ⊢
    |true=>
     obtain⟨aA,bl⟩:=iP Z;have:=FI (i:=i) Z (by omega) h0 h1
     simp only[aA,bl,decide_true,Bool.not_true,Bool.not_false,cond_true,cond_false,Option.bind_some,b5,hx,this,bX hw,Bool.and_true,Option.map_some]
   ·simp only[Option.some.injEq] at aj;cases az:cP x with
    |false=>rw[az] at aj;cases aj
    |true=>
     rw[az] at aj;simp only[cond_true,Sum.inl.injEq] at aj;subst aj;have:=E1 az h0 h1;exact⟨this.1,this.2,by omega⟩
  ·simp only[qG,dx,cond_false]
 rw[gT] at key;cases s with
 |nil=>rfl
 |cons b r=>
  have hb:aO (b::r) 0=some b:=rfl;have he:((b::r)==([]:B))=false:=rfl;have hl:decide (((b::r).length:Int)>1)=!(r==[]):=by cases r<;>simp;omega
  have ib:decide (((b::r).length:Int)>9)=!decide ((b::r).length<=9):=by by_cases h:(b::r).length<=9<;>simp only[h,decide_true,decide_false,Bool.not_true,Bool.not_false,decide_eq_true_eq,decide_eq_false_iff_not]<;>omega
  have q7:ik (b::r)=(!(r==[])&&(b.toNat:Int)==48):=by cases r<;>rfl
  simp only[f115,Bn,he,hl,ib,Bool.not_false,cond_true,Bool.not_not,hb,Option.bind_some];have fin:(b::r).length<=9->ik (b::r)=false->((sK ((b::r,(m,((0:Int),(((b::r).length:Int),((0:Int),()))))),())).bind fun KD=>match KD with
    |.inl wS=>some ((wS.1.1,(wS.1.2.1,())),())
    |.inr rc=>bif decide (rc.1.2.1>rc.1.1) then some (((0:Int),(false,())),()) else some ((rc.1.2.1,(true,())),()))=
    some ((bif fl m (b::r) then de (b::r) else 0,(fl m (b::r),())),()):=by
   intro ib j7;rw[key ib];unfold fl;rw[he,j7];cases Z:List.all (b::r) cP with
   |false=>rfl
   |true=>
    simp only[cond_true,Option.bind_some,Bool.not_false,Bool.true_and,nN];simp only[ib,decide_true,Bool.true_and];cases decide (de (b::r)<=m)<;>rfl
  by_cases az:(b::r).length<=9
  ·simp only[az,decide_true,cond_true];cases hr:(r==[]) with
   |true=>
    simp only[Bool.not_true,cond_false,Option.bind_some];exact fin az (by rw[q7,hr];rfl)
   |false=>
    simp only[Bool.not_false,cond_true,Option.bind_some];cases p_:((b.toNat:Int)==48) with
    |true=>
     have:fl m (b::r)=false:=by unfold fl;rw[q7,hr,p_];simp
     rw[this];rfl
    |false=>
     simp only[cond_false];exact fin az (by rw[q7,hr,p_];rfl)
  ·have:fl m (b::r)=false:=by
    unfold fl;rw[decide_eq_false az];simp
   simp only[az,decide_false,cond_false,Option.bind_some,cond_true,this]
theorem akO{n:Nat}{m:Int}(h:(n:Int)<=m)(ib:n<1000000000):fl m (Lib.decDigits n)=true:=by
 unfold fl;have h1:(Lib.decDigits n==[])=false:=by simpa using VJ n
 have h2:=Hg 8 n (by omega)
 rw[I3,h1,Sr,vT,decide_eq_true h2,decide_eq_true h];rfl
theorem ag9(n:Nat)(h:n<1000000):f74 ((Lib.itoa (n:Int),()),())=some (((n:Int),()),()):=by
 have h1:(Lib.decDigits n==[])=false:=by simpa using VJ n
 have h2:=Hg 5 n (by omega)
 have:=Ho ((Lib.decDigits n,()),()) (show au (Lib.decDigits n).length by unfold au;omega)
 have this:f74 ((Lib.decDigits n,()),())=some ((bif(Lib.decDigits n).all cP&&decide ((Lib.decDigits n).length<=6)&&!(Lib.decDigits n==[])&&!ik (Lib.decDigits n) then de (Lib.decDigits n) else-1,()),()):=this
 rw[n6,this,I3,decide_eq_true h2,h1,Sr,vT];rfl
def ly{aJ:Type}(D:Option aJ)(R:aJ->Prop):Prop:=∀a,D=some a <-> R a
theorem ly.Ky{aJ:Type}{D c7:Option aJ}{R:aJ->Prop}(h:ly D R)(aj:ly c7 R):D=c7:=by
 cases D with
 |some a=>exact((aj a).2 ((h a).1 rfl)).symm
 |none=>
  cases c7 with
  |none=>rfl
  |some a=>exact(h a).2 ((aj a).1 rfl)
noncomputable abbrev auL:a_:=[(209,Lq)]
theorem avM:aR O (aX ad auL):=aV ⟨W7,⟨⟩⟩
abbrev i166:Shape:=⟨[ak 0,ak 1],[],23⟩
abbrev Yt:Shape:=⟨[ak 4,ak 5,ap 6],[],23⟩
noncomputable def f166(a:i166.J):Option Yt.J:=
(f209 ((a.1.1,a.1.2.1,()),())).bind fun b=>
 bif(decide (b.1.1>=(0:Int))) then
(bm a.1.1 (0:Int) b.1.1).bind fun c=>
(bm a.1.1 (IntKind.i64.wrap (b.1.1+(a.1.2.1.length:Int))) (a.1.1.length:Int)).bind fun d=>
 some ((c,d,true,()),())
else
 some ((a.1.1,([]:B),false,()),())
noncomputable def _E:aD:=aH ad Tryz.f166 i166 Yt [] f166
theorem asf:aB O 166 _E:=aK avM Tryz.func166 (by kernel_rfl) ae (fun y=>by kernel_rfl) fun a=>by kernel_rfl
noncomputable abbrev avh:a_:=[(166,_E)]
theorem avY:aR O (aX ad avh):=aV ⟨asf,⟨⟩⟩
abbrev i114:Shape:=⟨[ak 0,ak 1],[],13⟩
abbrev Y5:Shape:=⟨[ak 4,ak 5,ap 6],[],13⟩
noncomputable def f114(a:i114.J):Option Y5.J:=
(f166 ((a.1.1,a.1.2.1,()),())).bind fun b=>
 some ((b.1.1,b.1.2.1,b.1.2.2.1,()),())
noncomputable def xc:aD:=aH ad Tryz.f114 i114 Y5 [] f114
theorem C5:aB O 114 xc:=aK avY Tryz.func114 (by kernel_rfl) ae (fun y=>by kernel_rfl) fun a=>by kernel_rfl
noncomputable def WT:aD:=I6
theorem aqe:aB O 250 WT:=afs (fn:=Tryz.f250) (by kernel_rfl) (by kernel_rfl) (by kernel_rfl) (by kernel_rfl) (by kernel_rfl)
noncomputable abbrev aum:a_:=[(212,Dq),(250,WT)]
theorem aaf:aR O (aX ad aum):=aV ⟨z212,aqe,⟨⟩⟩
abbrev Ap:Shape:=⟨[ak 0,ak 1,ag 5],[],34⟩
abbrev HF:List aP:=[(.ret,⟨[ag 4],[],34⟩)]
noncomputable def anp(y:Ap.J):bG Ap HF:=
(f212 ((y.1.1,y.1.2.1,()),())).bind fun a=>
 bif(a.1.1==((-1):Int)) then
 some (.inr ((y.1.2.2.1,()),()))
else
(bm y.1.1 (IntKind.i64.wrap (a.1.1+(y.1.2.1.length:Int))) (y.1.1.length:Int)).bind fun b=>
 some (.inl ((b,y.1.2.1,(IntKind.i64.wrap (y.1.2.2.1+(1:Int))),()),()))
noncomputable def TE:Ap.J->Option (aC HF):=bu anp
theorem amk:aT O (an (codeOf Tryz.f211) 1 62) (aU Ap HF TE):=bI aaf (by kernel_rfl) ae fun y=>by kernel_rfl
abbrev i211:Shape:=⟨[ak 0,ak 1],[],34⟩
abbrev XZ:Shape:=⟨[ag 4],[],34⟩
noncomputable def f211(a:i211.J):Option XZ.J:=
 bif((a.1.2.1.length:Int)==(0:Int)) then
 none
else
 bif((a.1.2.1.length:Int)==(1:Int)) then
(aO a.1.2.1 (0:Int)).bind fun b=>
(some ()).bind fun c=>
 some ((((Lib.countByte a.1.1 (b.toNat:Int).toNat.toUInt8:Nat):Int),()),())
else
(TE ((a.1.1,a.1.2.1,(0:Int),()),())).bind fun d=>
 some ((d.1.1,()),())
noncomputable def _f:aD:=aH ad Tryz.f211 i211 XZ [] f211
theorem arW:aB O 211 _f:=aK aaf Tryz.func211 (by kernel_rfl) (a8 amk ae) (fun y=>by kernel_rfl) fun a=>by kernel_rfl
noncomputable abbrev auK:a_:=[(211,_f),(212,Dq)]
theorem LN:aR O (aX ad auK):=aV ⟨arW,z212,⟨⟩⟩
abbrev Te:Shape:=⟨[ak 0,ak 1,ag 2,ag 3],[],66⟩
abbrev SV:List aP:=[(.norm,⟨[ak 0,ak 1,ag 2,ag 3],[],66⟩)]
noncomputable def Bd(y:Te.J):Option (aC SV):=
 bif(decide (y.1.2.2.2.1<(0:Int))) then
(f211 ((y.1.1,y.1.2.1,()),())).bind fun a=>
 some ((y.1.1,y.1.2.1,y.1.2.2.1,(IntKind.i64.wrap (a.1.1+(1:Int))),()),())
else
 some ((y.1.1,y.1.2.1,y.1.2.2.1,y.1.2.2.2.1,()),())
theorem amB:aT O (an (codeOf Tryz.f167) 1 30) (aU Te SV Bd):=ce LN (by kernel_rfl) ae fun y=>by kernel_rfl
abbrev y1:Shape:=⟨[ak 0,ak 1,ag 2,ag 3,ba 9 3000576,ag 10],[a' 3000576 .str 9 0],66⟩
abbrev FB:List aP:=[(.exit 0,⟨[ak 0,ba 9 3000576,ag 10],[a' 3000576 .str 9 0],66⟩)]
noncomputable def ze(y:y1.J):bG y1 FB:=
 bif(decide (y.1.2.2.2.2.2.1<y.1.2.2.2.1)) then
(f212 ((y.1.1,y.1.2.1,()),())).bind fun a=>
 bif(decide (a.1.1<(0:Int))) then
 some (.inr ((y.1.1,(),y.1.2.2.2.2.2.1,()),y.2.1,()))
else
(bm y.1.1 (0:Int) (IntKind.i64.wrap (a.1.1+y.1.2.2.1))).bind fun b=>
(be y.2.1.length y.1.2.2.2.2.2.1).bind fun c=>
((y.2.1[c]?).bind fun q=>some b).bind fun d=>
(bm y.1.1 (IntKind.i64.wrap (a.1.1+(y.1.2.1.length:Int))) (y.1.1.length:Int)).bind fun e=>
 some (.inl ((e,y.1.2.1,y.1.2.2.1,y.1.2.2.2.1,(),(IntKind.i64.wrap (y.1.2.2.2.2.2.1+(1:Int))),()),(y.2.1.set c d),()))
else
 some (.inr ((y.1.1,(),y.1.2.2.2.2.2.1,()),y.2.1,()))
noncomputable def vi:y1.J->Option (aC FB):=bu ze
theorem aiv:aT O (an (codeOf Tryz.f167) 1 2044) (aU y1 FB vi):=bI LN (by kernel_rfl) ae fun y=>by kernel_rfl
abbrev i167:Shape:=⟨[ak 0,ak 1,ag 2,ag 3],[],66⟩
abbrev Ys:Shape:=⟨[aL 8 .str],[],66⟩
noncomputable def f167(a:i167.J):Option Ys.J:=
 bif(a.1.2.2.2.1==(0:Int)) then
 some ((([]:List B),()),())
else
 bif(a.1.2.1==([]:B)) then
 none
else
(Bd ((a.1.1,a.1.2.1,a.1.2.2.1,a.1.2.2.2.1,()),())).bind fun b=>
(j4 16 (kp b.1.2.2.2.1 (IntKind.i64.wrap ((b.1.1.length:Int)+(1:Int)))) (kp b.1.2.2.2.1 (IntKind.i64.wrap ((b.1.1.length:Int)+(1:Int)))) ([]:B)).bind fun c=>
(vi ((b.1.1,b.1.2.1,b.1.2.2.1,(IntKind.i64.wrap ((kp b.1.2.2.2.1 (IntKind.i64.wrap ((b.1.1.length:Int)+(1:Int))))-(1:Int))),(),(0:Int),()),c,())).bind fun d=>
(be d.2.1.length d.1.2.2.1).bind fun e=>
((d.2.1[e]?).bind fun q=>some d.1.1).bind fun f=>
(bm (d.2.1.set e f) (0:Int) (IntKind.i64.wrap (d.1.2.2.1+(1:Int)))).bind fun g=>
 some ((g,()),())
noncomputable def Lw:aD:=aH ad Tryz.f167 i167 Ys [] f167
theorem z167:aB O 167 Lw:=aK LN Tryz.func167 (by kernel_rfl) (a8 amB (a8 aiv ae)) (fun y=>by kernel_rfl) fun a=>by kernel_rfl
noncomputable abbrev avg:a_:=[(167,Lw)]
theorem avX:aR O (aX ad avg):=aV ⟨z167,⟨⟩⟩
abbrev i116:Shape:=⟨[ak 0,ak 1],[],8⟩
abbrev Y3:Shape:=⟨[aL 4 .str],[],8⟩
noncomputable def f116(a:i116.J):Option Y3.J:=
(f167 ((a.1.1,a.1.2.1,(0:Int),((-1):Int),()),())).bind fun b=>
 some ((b.1.1,()),())
noncomputable def _7:aD:=aH ad Tryz.f116 i116 Y3 [] f116
theorem z116:aB O 116 _7:=aK avX Tryz.func116 (by kernel_rfl) ae (fun y=>by kernel_rfl) fun a=>by kernel_rfl
abbrev i251:Shape:=⟨[ak 0,ak 1],[],18⟩
abbrev XF:Shape:=⟨[ap 4],[],18⟩
noncomputable def f251(a:i251.J):Option XF.J:=
 bif(decide ((a.1.1.length:Int)>=(a.1.2.1.length:Int))) then
(bm a.1.1 (0:Int) (a.1.2.1.length:Int)).bind fun b=>
 some (((b==a.1.2.1),()),())
else
 some ((false,()),())
noncomputable def Ll:aD:=aH ad Tryz.f251 i251 XF [] f251
theorem W3:aB O 251 Ll:=aK g0 Tryz.func251 (by kernel_rfl) ae (fun y=>by kernel_rfl) fun a=>by kernel_rfl
noncomputable abbrev auk:a_:=[(251,Ll)]
theorem avD:aR O (aX ad auk):=aV ⟨W3,⟨⟩⟩
abbrev i213:Shape:=⟨[ak 0,ak 1],[],15⟩
abbrev XX:Shape:=⟨[ak 4,ap 5],[],15⟩
noncomputable def f213(a:i213.J):Option XX.J:=
(f251 ((a.1.1,a.1.2.1,()),())).bind fun b=>
 bif(!b.1.1) then
 some ((a.1.1,false,()),())
else
(bm a.1.1 (a.1.2.1.length:Int) (a.1.1.length:Int)).bind fun c=>
 some ((c,true,()),())
noncomputable def _e:aD:=aH ad Tryz.f213 i213 XX [] f213
theorem z213:aB O 213 _e:=aK avD Tryz.func213 (by kernel_rfl) ae (fun y=>by kernel_rfl) fun a=>by kernel_rfl
noncomputable abbrev auJ:a_:=[(213,_e)]
theorem avL:aR O (aX ad auJ):=aV ⟨z213,⟨⟩⟩
abbrev i168:Shape:=⟨[ak 0,ak 1],[],11⟩
abbrev Yr:Shape:=⟨[ak 4,ap 5],[],11⟩
noncomputable def f168(a:i168.J):Option Yr.J:=
(f213 ((a.1.1,a.1.2.1,()),())).bind fun b=>
 some ((b.1.1,b.1.2.1,()),())
noncomputable def _D:aD:=aH ad Tryz.f168 i168 Yr [] f168
theorem z168:aB O 168 _D:=aK avL Tryz.func168 (by kernel_rfl) ae (fun y=>by kernel_rfl) fun a=>by kernel_rfl
noncomputable abbrev auj:a_:=[(251,Ll)]
theorem avC:aR O (aX ad auj):=aV ⟨W3,⟨⟩⟩
abbrev i215:Shape:=⟨[ak 0,ak 1],[],8⟩
abbrev XW:Shape:=⟨[ap 4],[],8⟩
noncomputable def f215(a:i215.J):Option XW.J:=
(f251 ((a.1.1,a.1.2.1,()),())).bind fun b=>
 some ((b.1.1,()),())
noncomputable def _d:aD:=aH ad Tryz.f215 i215 XW [] f215
theorem arV:aB O 215 _d:=aK avC Tryz.func215 (by kernel_rfl) ae (fun y=>by kernel_rfl) fun a=>by kernel_rfl
noncomputable abbrev aui:a_:=[(167,Lw)]
theorem avB:aR O (aX ad aui):=aV ⟨z167,⟨⟩⟩
abbrev i216:Shape:=⟨[ak 0,ak 1,ag 2],[],11⟩
abbrev XV:Shape:=⟨[aL 6 .str],[],11⟩
noncomputable def f216(a:i216.J):Option XV.J:=
(f167 ((a.1.1,a.1.2.1,(0:Int),a.1.2.2.1,()),())).bind fun b=>
 some ((b.1.1,()),())
noncomputable def _c:aD:=aH ad Tryz.f216 i216 XV [] f216
theorem arU:aB O 216 _c:=aK avB Tryz.func216 (by kernel_rfl) ae (fun y=>by kernel_rfl) fun a=>by kernel_rfl
def hd(c:UInt8)(s:B):B:=match dw c s with|some (x,_)=>x|none=>s
def g'(c:UInt8)(s:B):B:=match dw c s with|some (_,y)=>y|none=>[]
theorem Re(c:UInt8)(r:B):f209 ((r,([c],())),())=some ((Lib.indexByte r c,()),()):=by
 have h0:aO ([c]:B) (0:Int)=some c:=rfl;have h1:((([c]:B).length:Int)==0)=false:=rfl;have h2:((([c]:B).length:Int)==1)=true:=rfl;have h3:((c.toNat:Int)).toNat.toUInt8=c:=by simp
 simp only[f209,A8,f244,h0,h1,h2,h3,Bool.not_false,cond_true,cond_false,Option.bind_some,Option.bind];by_cases h:(([c]:B)==r)=true
 ·have:r=[c]:=(by simpa using h:[c]=r).symm
  subst this;simp[Lib.indexByte]<;>rfl
 ·simp[h]<;>rfl
theorem nh(c:UInt8)(s:B)(hs:au s.length):f114 ((s,([c],())),())=some ((hd c s,(g' c s,((dw c s).isSome,()))),()):=by
 have hi:=Re c s;rw[TO] at hi;unfold hd g';simp only[f114,f166,hi,Option.bind_some];cases h:dw c s with
 |none=>rfl
 |some q=>
  obtain⟨x,y⟩:=q;obtain⟨h1,_⟩:=jk h;have hl:s.length=x.length+1+y.length:=by rw[h1];simp;omega
  have Z:decide (((x.length:Nat):Int)>=0)=true:=decide_eq_true (by omega)
  have hw:IntKind.i64.wrap (((x.length:Nat):Int)+((([c]:B).length:Nat):Int))=((x.length+1:Nat):Int):=by
   rw[cT (by simp;omega) (by unfold au at hs;simp;omega)];simp
  have e1:bm s 0 ((x.length:Nat):Int)=some x:=by rw[fY (by omega),h1];simp
  have e2:bm s ((x.length+1:Nat):Int) ((s.length:Nat):Int)=some y:=by
   rw[fw (by omega)]
   congr 1
   rw[h1,show x++c::y=(x++[c])++y by simp,List.drop_left' (by simp)]
  simp only[Z,cond_true,e1,hw,e2,Option.bind_some,Option.isSome_some]
def dW(p s:B):Option B:=bif decide (p.length<=s.length)&&s.take p.length==p then some (s.drop p.length) else none
theorem OT(s p:B):f251 ((s,(p,())),())=some (((dW p s).isSome,()),()):=by
 have Z:decide (((s.length:Nat):Int)>=((p.length:Nat):Int))=decide (p.length<=s.length):=by congr 1;apply propext;omega
 unfold dW;simp only[f251,Z];cases h:decide (p.length<=s.length) with
 |false=>rfl
 |true=>
  rw[cond_true,fY (of_decide_eq_true h)];simp only[Option.bind_some,Bool.true_and];cases (s.take p.length==p)<;>rfl
theorem aeZ(s p:B):f215 ((s,(p,())),())=some (((dW p s).isSome,()),()):=by
 have:=OT s p;simp only[f215,this,Option.bind_some]
theorem OU(s p:B):f168 ((s,(p,())),())=some (((dW p s).getD s,((dW p s).isSome,())),()):=by
 have h0:=OT s p;simp only[f168,f213,h0,Option.bind_some];unfold dW;cases h:decide (p.length<=s.length)&&s.take p.length==p with
 |false=>rfl
 |true=>
  simp only[Bool.and_eq_true,decide_eq_true_eq] at h;have e:bm s ((p.length:Nat):Int) ((s.length:Nat):Int)=some (s.drop p.length):=fw h.1;simp only[cond_true,Option.isSome_some,Bool.not_true,cond_false,e,Option.bind_some,Option.getD_some]
theorem vn(p r:B):dW p (p++r)=some r:=by
 unfold dW;rw[decide_eq_true (by simp)]
 simp
def splitN(c:UInt8):Nat->B->List B
 |0,s=>[s]
 |k+1,s=>match dw c s with
  |some (x,y)=>x::splitN c k y
  |none=>[s]
theorem yC(c:UInt8):∀(k:Nat) (s:B),(bF c s).length<=k+1->splitN c k s=bF c s:=by
 intro k;induction k with
 |zero=>
  intro s h;rw[Pz] at h ⊢;cases hc:dw c s with
  |none=>rfl
  |some q=>
   obtain⟨x,y⟩:=q;rw[hc] at h;have:=o9 c y;cases hy:bF c y with
   |nil=>exact absurd hy this
   |cons z zs=>simp[hy] at h
 |succ k ih=>
  intro s h;rw[Pz] at h ⊢;unfold splitN;cases hc:dw c s with
  |none=>rfl
  |some q=>
   obtain⟨x,y⟩:=q;rw[hc] at h;simp only[List.length_cons] at h;show x::splitN c k y=x::bF c y;rw[ih y (by omega)]
theorem Pw(c:UInt8)(k:Nat)(s:B):1<=(splitN c k s).length:=by
 cases k with
 |zero=>simp[splitN]
 |succ k=>unfold splitN;split<;>simp
theorem yB(c:UInt8):∀(k:Nat) (s:B),s.length<=k->splitN c k s=bF c s:=fun k s h=>yC c k s (by have:=nZ c s;omega)
theorem GF{aJ:Type}:∀(a:List aJ) (i:Nat) (x:aJ),i<a.length->(a.set i x).take (i+1)=a.take i++[x]:=by
 intro a;induction a with
 |nil=>intro i x h;simp at h
 |cons b a ih=>
  intro i x h;cases i with
  |zero=>rfl
  |succ i=>
   have:=ih i x (by simpa using h)
   simp only[List.set_cons_succ,List.take_succ_cons,List.cons_append,this]
theorem TS(c:UInt8)(N:Nat)(eL:au N):∀(m i:Nat) (s:B) (a:List B),i+m+1=N->a.length=N->au s.length->s.length+i<=1099511627776->
  ∃(aN:B) (j:Nat) (cS:List B),vi ((s,([c],((0:Int),(((N-1:Nat):Int),((),((i:Int),())))))),(a,()))=some ((aN,((),((j:Int),()))),(cS,()))/\j<N/\cS.length=N/\(cS.set j aN).take (j+1)=a.take i++splitN c m s:=by
 intro m;induction m with
 |zero=>
  intro i s a hi ha hs _;refine⟨s,i,a,cp ?_,by omega,ha,?_⟩
  ·have:decide ((i:Int)<((N-1:Nat):Int))=false:=decide_eq_false (by omega)
   simp only[ze,this,cond_false]
  ·rw[GF a i s (by omega)];rfl
 |succ m ih=>
  intro i s a hi ha hs hb;have hlt:decide ((i:Int)<((N-1:Nat):Int))=true:=decide_eq_true (by omega)
  have hx:=Re c s;have hx:f212 ((s,([c],())),())=some ((Lib.indexByte s c,()),()):=by simp only[f212,hx,Option.bind_some]
  rw[TO] at hx;cases hc:dw c s with
  |none=>
   rw[hc] at hx;refine⟨s,i,a,cp ?_,by omega,ha,?_⟩
   ·have:decide ((-1:Int)<0)=true:=rfl;simp only[ze,hlt,cond_true,hx,Option.bind_some,this]
   ·rw[GF a i s (by omega)];simp only[splitN,hc]
  |some q=>
   obtain⟨x,y⟩:=q;rw[hc] at hx;obtain⟨h1,_⟩:=jk hc;have hl:s.length=x.length+1+y.length:=by rw[h1];simp;omega
   obtain⟨aN,j,cS,g1,g2,g3,g4⟩:=ih (i+1) y (a.set i x) (by omega) (by simp[ha]) (by unfold au at hs ⊢;omega) (by omega)
   refine⟨aN,j,cS,?_,g2,g3,?_⟩
   ·refine(dM ?_).trans g1;have Z:decide (((x.length:Nat):Int)<0)=false:=decide_eq_false (by omega)
    have U:IntKind.i64.wrap (((x.length:Nat):Int)+0)=((x.length:Nat):Int):=by unfold au at hs;rw[cT (by omega) (by omega)];omega
    have aZ:IntKind.i64.wrap (((x.length:Nat):Int)+((([c]:B).length:Nat):Int))=((x.length+1:Nat):Int):=by
     unfold au at hs;rw[cT (by simp;omega) (by simp;omega)];simp
    have e1:bm s 0 ((x.length:Nat):Int)=some x:=by rw[fY (by omega),h1];simp
    have e2:bm s ((x.length+1:Nat):Int) ((s.length:Nat):Int)=some y:=by
     rw[fw (by omega)]
     congr 1
     rw[h1,show x++c::y=(x++[c])++y by simp,List.drop_left' (by simp)]
    have br:be a.length (i:Int)=some i:=fx (by omega)
    have da:a[i]? =some (a[i]'(by omega)):=List.getElem?_eq_getElem (by omega)
    simp only[ze,hlt,cond_true,hx,Option.bind_some,Z,cond_false,U,e1,br,da,aZ,e2,bX (i:=i) (by unfold au;omega)]
   ·rw[g4,GF a i x (by omega)]
    simp only[splitN,hc,List.append_assoc,List.cons_append,List.nil_append]
theorem agf(c:UInt8):∀s:B,(bF c s).length=Lib.countByte s c+1:=by
 intro s;induction s with
 |nil=>rfl
 |cons b r ih=>
  unfold bF Lib.countByte;rw[List.count_cons];unfold Lib.countByte at ih;cases hb:b==c with
  |true=>simp[ih]
  |false=>
   simp only[cond_false];have hne:=o9 c r;cases hy:bF c r with
   |nil=>exact absurd hy hne
   |cons y bj=>rw[hy] at ih;simpa using ih
theorem agw(c:UInt8)(s:B)(n N:Nat)(hs:s.length<=1000000000)(h1:1<=n)(eL:min n (s.length+1)=N):
  f167 ((s,([c],((0:Int),((n:Int),())))),())=some ((splitN c (N-1) s,()),()):=by
 have rH:((n:Int)==0)=false:=by rw[beq_eq_false_iff_ne];omega
 have hc0:(([c]:B)==[])=false:=rfl;have hneg:decide ((n:Int)<0)=false:=decide_eq_false (by omega)
 have hw:IntKind.i64.wrap (((s.length:Nat):Int)+1)=((s.length+1:Nat):Int):=by rw[cT (by omega) (by omega)];omega
 have hm:kp (n:Int) ((s.length+1:Nat):Int)=(N:Int):=by unfold kp;split<;>omega
 have MC:j4 16 (N:Int) (N:Int) ([]:B)=some (List.replicate N []):=Va (by decide) (by unfold au;omega)
 have hw1:IntKind.i64.wrap ((N:Int)-1)=((N-1:Nat):Int):=by rw[cT (by omega) (by omega)];omega
 obtain⟨aN,j,cS,g1,g2,g3,g4⟩:=TS c N (by unfold au;omega) (N-1) 0 s (List.replicate N []) (by omega) (by simp) (by unfold au;omega) (by omega)
 have g1:vi ((s,([c],((0:Int),(((N-1:Nat):Int),((),((0:Int),())))))),(List.replicate N ([]:B),()))=_:=g1;have e1:be cS.length (j:Int)=some j:=fx (by omega)
 have e2:cS[j]? =some (cS[j]'(by omega)):=List.getElem?_eq_getElem (by omega)
 have br:bm (cS.set j aN) 0 ((j+1:Nat):Int)=some (splitN c (N-1) s):=by
  rw[fY (by simp;omega),g4];simp
 simp only[f167,rH,hc0,cond_false,Bd,hneg,Option.bind_some,hw,hm,MC,hw1,g1,e1,e2,bX (i:=j) (by unfold au;omega),br]
theorem P6(s:B)(hs:s.length<=1000000000):f216 ((s,([32],((5:Int),()))),())=some ((splitN 32 4 s,()),()):=by
 have h:=agw 32 s 5 _ hs (by decide) rfl
 have h:f167 ((s,(([32]:B),((0:Int),((5:Int),())))),())=_:=h;simp only[f216,h,Option.bind_some];congr 3
 by_cases aA:4<=s.length
 ·rw[show min 5 (s.length+1)-1=4 by omega]
 ·rw[yB 32 _ s (by omega),yB 32 4 s (by omega)]
theorem P7(s:B)(hs:s.length<=1000000000):f116 ((s,([32],())),())=some ((bF 32 s,()),()):=by
 have hcs:=agf 32 s;have hl:=nZ 32 s;have rH:((-1:Int)==0)=false:=rfl;have hc0:(([32]:B)==[])=false:=rfl;have hneg:decide ((-1:Int)<0)=true:=rfl;have atx:f211 ((s,(([32]:B),())),())=some (((Lib.countByte s 32:Int),()),()):=rfl;have DZ:IntKind.i64.wrap ((Lib.countByte s 32:Int)+1)=(((bF 32 s).length:Nat):Int):=by rw[cT (by omega) (by omega)];omega
 have hw:IntKind.i64.wrap (((s.length:Nat):Int)+1)=((s.length+1:Nat):Int):=by rw[cT (by omega) (by omega)];omega
 generalize eL:(bF 32 s).length=N at DZ hcs hl;have hm:kp (N:Int) ((s.length+1:Nat):Int)=(N:Int):=by unfold kp;split<;>omega
 have MC:j4 16 (N:Int) (N:Int) ([]:B)=some (List.replicate N []):=Va (by decide) (by unfold au;omega)
 have hw1:IntKind.i64.wrap ((N:Int)-1)=((N-1:Nat):Int):=by rw[cT (by omega) (by omega)];omega
 obtain⟨aN,j,cS,g1,g2,g3,g4⟩:=TS 32 N (by unfold au;omega) (N-1) 0 s (List.replicate N []) (by omega) (by simp) (by unfold au;omega) (by omega)
 have g1:vi ((s,(([32]:B),((0:Int),(((N-1:Nat):Int),((),((0:Int),())))))),(List.replicate N ([]:B),()))=_:=g1;have e1:be cS.length (j:Int)=some j:=fx (by omega)
 have e2:cS[j]? =some (cS[j]'(by omega)):=List.getElem?_eq_getElem (by omega)
 have br:bm (cS.set j aN) 0 ((j+1:Nat):Int)=some (bF 32 s):=by
  rw[fY (by simp;omega),g4,yC 32 (N-1) s (by omega)];simp
 simp only[f116,f167,rH,hc0,cond_false,Bd,hneg,cond_true,atx,Option.bind_some,DZ,hw,hm,MC,hw1,g1,e1,e2,bX (i:=j) (by unfold au;omega),br]
end Go.Proofs
namespace Go.Proofs
open Go.Shelf Go.RowKit Go.Lib
variable {P:Program}{ρ:Ren}
abbrev pR(s:ByteArray):Prop:=∀(j:Nat) b,s.data.toList[j]? =some b->b.toNat<128
theorem alm{r:Int}(h0:128<=r):2<=(Utf8.encode r).size/\∀j (h:j<(Utf8.encode r).size),0<j->128<=((Utf8.encode r)[j]'h).toNat:=by
 unfold Utf8.encode;generalize hc:(if Utf8.valid r then r.toNat else Utf8.runeError)=c
 have hc1:128<=c:=by
  rw[<-hc];split
  ·omega
  ·decide
 simp only[];have k:∀x:Nat,128<=128+x%64/\128+x%64<256:=fun x=>by omega
 repeat' split
 all_goals first|omega|skip
 ·refine⟨by show 2<=2;decide,fun j h hj=>?_⟩
  have hj2:j<2:=h;have:j=1:=by omega
  subst this;show 128<=(UInt8.ofNat (128+c%64)).toNat;rw[UInt8.toNat_ofNat'];have:=k c;omega
 ·refine⟨by show 2<=3;decide,fun j h hj=>?_⟩
  have hj2:j<3:=h;have:j=1\/j=2:=by omega
  rcases this with rfl|rfl
  ·show 128<=(UInt8.ofNat (128+c/64%64)).toNat;rw[UInt8.toNat_ofNat'];have:=k (c/64);omega
  ·show 128<=(UInt8.ofNat (128+c%64)).toNat;rw[UInt8.toNat_ofNat'];have:=k c;omega
 ·refine⟨by show 2<=4;decide,fun j h hj=>?_⟩
  have hj2:j<4:=h;have:j=1\/j=2\/j=3:=by omega
  rcases this with rfl|rfl|rfl
  ·show 128<=(UInt8.ofNat (128+c/4096%64)).toNat;rw[UInt8.toNat_ofNat'];have:=k (c/4096);omega
  ·show 128<=(UInt8.ofNat (128+c/64%64)).toNat;rw[UInt8.toNat_ofNat'];have:=k (c/64);omega
  ·show 128<=(UInt8.ofNat (128+c%64)).toNat;rw[UInt8.toNat_ofNat'];have:=k c;omega
theorem aeu{l:List UInt8}{b:UInt8}(h:∀x,x∈l->x.toNat<128)(hb:128<=b.toNat):Lib.indexByte l b=-1:=by
 induction l with
 |nil=>rfl
 |cons x r ih=>
  have h1:=h x List.mem_cons_self;have h2:=ih fun y hy=>h y (List.mem_cons_of_mem _ hy)
  have h3:(x==b)=false:=by
   rw[beq_eq_false_iff_ne];rintro rfl;omega
  unfold Lib.indexByte;rw[h2,h3];rfl
set_option maxHeartbeats 4000000 in
set_option maxRecDepth 1000000 in
theorem Any.aeG(L:Lays.n152 P ρ)(s:ByteArray)(w:World)(ha:pR s):
  Calls P (ρ.f 152) #[.string s,.int .i32 65533] w fun e w'=>e=.returned (.int .i64 (-1))/\∃pos,w'=w.iter s pos:=by
 have HA:Aside (pR s):=ha;clear ha;have t3:=L.t3;have a3:=L.a3;have z3:=L.z3;have v3:=L.v3;have t4:=L.t4;have a4:=L.a4;have z4:=L.z4;have v4:=L.v4;have t5:=L.t5;have a5:=L.a5;have z5:=L.z5;have v5:=L.v5;have t9:=L.t9;have a9:=L.a9;have z9:=L.z9;have v9:=L.v9;have t21:=L.t21;have a21:=L.a21;have z21:=L.z21;have v21:=L.v21;go_enter L.f152,Body.n152_ntmps ρ
 go_wp2
 go_loopg [5,6] s.size (fun g _ _ wx=>∃i:Nat,i+g=s.size/\wx=w.iter s i)
 case atStart=>exact⟨0,by omega,rfl⟩
 case round=>
  obtain⟨i,hig,rfl⟩:=hrel;cases gk with
  |zero=>
   obtain rfl:i=s.size:=by omega
   have hnx:=run_next_end (P:=P) w s s.size
   go_wp2
   go_ret
   exact⟨rfl,_,rfl⟩
  |succ g=>
   have hi:i<s.size:=by omega
   obtain⟨x,hx⟩:∃x:UInt8,s[i]'hi=x:=⟨_,rfl⟩;have hxl:s.data.toList[i]? =some x:=by rw[<-hx];exact Lib.data_getElem? s i hi
   have hx128:x.toNat<128:=HA.out i x hxl;have hnx:=fun ty=>run_next_ascii (P:=P) w s i ty hi (by rw[hx];exact hx128)
   rw[hx] at hnx;clear hxl hx;have hne:((x.toNat:Int)==65533)=false:=by rw[beq_eq_false_iff_ne];omega
   go_wp2
   go_roundg g
   case measure=>omega
   case rel=>exact⟨i+1,by omega,rfl⟩
set_option maxHeartbeats 8000000 in
set_option maxRecDepth 1000000 in
theorem Any.aet(L:Lays.n152 P ρ)(s:ByteArray)(r:Int)(w:World)(h0:128<=r)(h1:r<=2147483647)(hne:r≠65533)(hs:s.size<=1000000)(ha:pR s):
  Calls P (ρ.f 152) #[.string s,.int .i32 r] w fun e w'=>e=.returned (.int .i64 (-1))/\Below w.heap.size w w':=by
 have HA:Aside (pR s):=ha;clear ha;have t3:=L.t3;have a3:=L.a3;have z3:=L.z3;have v3:=L.v3;have t4:=L.t4;have a4:=L.a4;have z4:=L.z4;have v4:=L.v4;have t5:=L.t5;have a5:=L.a5;have z5:=L.z5;have v5:=L.v5;have t9:=L.t9;have a9:=L.a9;have z9:=L.z9;have v9:=L.v9;have t21:=L.t21;have a21:=L.a21;have z21:=L.z21;have v21:=L.v21;have e119:∀args w,(callFunc (ρ.f 119) args).run P w=.ok (.enter (ρ.f 119) args) w:=enters_of L.f119 (by kernel_rfl) rfl
 have e137:∀args w,(callFunc (ρ.f 137) args).run P w=.ok (.enter (ρ.f 137) args) w:=enters_of L.f137 (by kernel_rfl) rfl
 have b1:¬(r<128):=by omega
 have b2:(0:Int)<=r:=by omega
 have b3:(r==65533)=false:=by rw[beq_eq_false_iff_ne];exact hne
 obtain⟨hE,hB⟩:=alm h0;cases hv:Lib.validRune r with
 |false=>
  go_enter L.f152,Body.n152_ntmps ρ
  go_wp2_with (go_at_fn (ρ.f 119);refine(Any.utf8_ValidRune {L with} _ _).mono ?_;rintro e w' ⟨rfl,hw⟩;rw[hw,hv])
  go_ret
  exact⟨rfl,Below.refl _ _⟩
 |true=>
  have mixed:=L.mixed;have s21:(P.underlying (ρ.t 21)).isSome=true:=by rw[L.t21];rfl
  have hcv:=fun w=>run_convert_int_string (P:=P) w (ρ.t 21) (ρ.t 9) .i32 r s21 L.t9
  have hRs:(Utf8.encode r).size<=4:=encode_size_le r;generalize hR:Utf8.encode r=R at hE hB hcv hRs;clear hR;obtain⟨n,hn⟩:∃n:Nat,R.size=n+1:=⟨R.size-1,by omega⟩
  have hidx:(R.size:Int)-1=(n:Int):=by omega
  go_enter L.f152,Body.n152_ntmps ρ
  go_wp2_with (go_at_fn (ρ.f 119);refine(Any.utf8_ValidRune {L with} _ _).mono ?_;rintro e w' ⟨rfl,hw⟩;rw[hw,hv])
  go_step3
  go_wp2
  refine wp_loop_rounds 1 ?_
  rw[rounds_succ]
  go_wp2
  ·have hlt:(n:Int)<(s.size:Int):=by omega
   have hns:n<s.size:=by omega
   have hnR:n<R.size:=by omega
   have hx:=HA.out n _ (Lib.data_getElem? s n hns);have hy:=hB n hnR (by omega)
   obtain⟨x,hxe⟩:∃x:UInt8,s[n]'hns=x:=⟨_,rfl⟩;obtain⟨y,hye⟩:∃y:UInt8,R[n]'hnR=y:=⟨_,rfl⟩;rw[hxe] at hx;rw[hye] at hy;have g1:=fun w=>run_index_string (P:=P) w (ρ.t 9) s .i64 (n:Int) L.t9
   have g2:=fun w=>run_index_string (P:=P) w (ρ.t 9) R .i64 (n:Int) L.t9
   simp only[show(0:Int)<=(n:Int)/\(n:Int)<(s.size:Int) from⟨by omega,hlt⟩,dif_pos,Int.toNat_natCast,hxe] at g1
   simp only[show(0:Int)<=(n:Int)/\(n:Int)<(R.size:Int) from⟨by omega,by omega⟩,dif_pos,Int.toNat_natCast,hye] at g2
   go_step3
   go_wp2
   go_region_o
   have hxy:((x.toNat:Int)==(y.toNat:Int))=false:=by rw[beq_eq_false_iff_ne];omega
   have hxy':¬x.toNat=y.toNat:=by omega
   go_wp2
   have hsm:indexByte (List.take (s.size-(n+1)) (List.drop (n+1) s.data.toList)) y=-1:=by
    refine aeu (fun z hz=>?_) hy
    obtain⟨k,hk⟩:=List.getElem?_of_mem (List.mem_of_mem_drop (List.mem_of_mem_take hz));exact HA.out k z hk
   have hb1:(n:Int)+1<=(s.size:Int):=by omega
   have hb0:(0:Int)<=(n:Int)+1:=by omega
   have hb2:¬((s.size:Int)<(n:Int)+1):=by omega
   have hbn:n+1<=s.size:=by omega
   have hsl1:∀w,(Instr.slice (ρ.t 9) (.string s) (some (.int .i64 ((n:Int)+1))) none none).run P w=.ok (.string (s.extract (n+1) s.size)) w:=fun w=>by
    rw[run_slice_string_from_if w (ρ.t 9) s .i64 _ L.t9,if_pos ⟨by omega,by omega⟩]
    rfl
   have hw1:IntKind.i64.wrap ((n:Int)+1)=(n:Int)+1:=by rw[IntKind.wrap_i64];omega
   have hsl2:∀w,(Instr.slice (ρ.t 9) (.string s) (some (.int .i64 (IntKind.i64.wrap ((n:Int)+1)))) none none).run P w=.ok (.string (s.extract (n+1) s.size)) w:=fun w=>by rw[hw1];exact hsl1 w
   go_region_with_o (go_at_fn (ρ.f 137);refine(Any.strings_IndexByte {L with} _ _ _).mono ?_;rintro e w' ⟨rfl,hw⟩;rw[hw])
   go_wp2
   rw[Exit.noGoto_ret];simp only[Exit.inBlock,Exit.then]
   rw[Exit.noGoto_ret];simp only[Exit.inBlock,Exit.then]
   go_ret
   exact⟨rfl,(Below.refl _ _).drew.drew⟩
  ·rw[Exit.noGoto_ret];go_ret
   exact⟨rfl,Below.refl _ _⟩
theorem age(s:ByteArray)(pos:Nat)(h:pos<s.size)(ha:128<=(s[pos]'h).toNat):∀j,j<(Utf8.decode s pos).2->pos+j<s.size/\∀b,s.data.toList[pos+j]? =some b->128<=b.toNat:=by
 have g:∀k (hk:pos+k<s.size) b,s.data.toList[pos+k]? =some b->s.get! (pos+k)=b:=fun k hk b hb=>by
  have e:=Lib.data_getElem? s (pos+k) hk;rw[hb] at e;have:=get_at s (pos+k) hk;rw[Nat.add_zero] at this;rw[this];exact(Option.some.inj e).symm
 have z:∀b,s.data.toList[pos+0]? =some b->128<=b.toNat:=fun b hb=>by
  have e:=Lib.data_getElem? s pos h;rw[Nat.add_zero,e] at hb;rw[<-Option.some.inj hb];exact ha
 have c:∀k,(decide (pos+k<s.size)&&(s.get! (pos+k)).toNat/64==2)=true->pos+k<s.size/\∀b,s.data.toList[pos+k]? =some b->128<=b.toNat:=fun k hk=>by
  simp only[Bool.and_eq_true,decide_eq_true_eq,beq_iff_eq] at hk;refine⟨hk.1,fun b hb=>?_⟩
  have:=g k hk.1 b hb;rw[this] at hk;omega
 have one:∀j,j<1->pos+j<s.size/\∀b,s.data.toList[pos+j]? =some b->128<=b.toNat:=fun j hj=>by
  obtain rfl:j=0:=by omega
  exact⟨h,z⟩
 have hn:¬(s[pos]'h).toNat<128:=by omega
 simp only[Utf8.decode,get_at s pos h,hn,if_false];split
 ·rename_i h2;simp only[Bool.and_eq_true] at h2;have c1:=c 1 (by simpa using h2.2)
  split
  ·intro j hj;have:j=0\/j=1:=by simp only at hj;omega
   rcases this with rfl|rfl
   ·exact⟨h,z⟩
   ·exact c1
  ·exact one
 ·split
  ·rename_i h2;simp only[Bool.and_eq_true] at h2;have c1:=c 1 (by simpa using h2.1.2)
   have c2:=c 2 (by simpa using h2.2)
   split
   ·intro j hj;have:j=0\/j=1\/j=2:=by simp only at hj;omega
    rcases this with rfl|rfl|rfl
    ·exact⟨h,z⟩
    ·exact c1
    ·exact c2
   ·exact one
  ·split
   ·rename_i h2;simp only[Bool.and_eq_true] at h2;have c1:=c 1 (by simpa using h2.1.1.2)
    have c2:=c 2 (by simpa using h2.1.2)
    have c3:=c 3 (by simpa using h2.2)
    split
    ·intro j hj;have:j=0\/j=1\/j=2\/j=3:=by simp only at hj;omega
     rcases this with rfl|rfl|rfl|rfl
     ·exact⟨h,z⟩
     ·exact c1
     ·exact c2
     ·exact c3
    ·exact one
   ·exact one
theorem Any.afj(L:Lays.n152 P ρ)(s:ByteArray)(r:Int)(w:World)(h0:128<=r)(h1:r<=2147483647)(hs:s.size<=1000000)(ha:pR s):
  Calls P (ρ.f 152) #[.string s,.int .i32 r] w fun e w'=>e=.returned (.int .i64 (-1))/\Below w.heap.size w w':=by
 by_cases hne:r=65533
 ·subst hne;exact(Any.aeG L s w ha).mono fun e w' ⟨h,pos,h2⟩=>⟨h,h2▸(Below.refl _ _).alloc (Nat.le_refl _) _⟩
 ·exact Any.aet L s r w h0 h1 hne hs ha
set_option maxHeartbeats 8000000 in
set_option maxRecDepth 1000000 in
theorem Any.aek(L:Lays.n153 P ρ)(s chars:ByteArray)(w:World)(h2:2<=chars.size)(h8:s.size<=8)(hcs:chars.size<=1000000)(hac:pR chars):
  Calls P (ρ.f 153) #[.string s,.string chars] w fun e w'=>e=.returned (.int .i64 (Lib.indexAny s.data.toList chars.data.toList))/\Below w.heap.size w w':=by
 have HA:Aside (pR chars):=hac;clear hac;have hemp:chars.toList.isEmpty=false:=by
  rw[Lib.toList_data];cases h:chars.data.toList with
  |nil=>have:=Lib.size_eq chars;rw[h,List.length_nil] at this;omega
  |cons _ _=>rfl
 have hn1:((chars.size:Int)==1)=false:=beq_eq_false_iff_ne.2 (by omega)
 have h8z:decide ((8:Int)<(s.size:Int))=false:=decide_eq_false (by omega)
 have t3:=L.t3;have a3:=L.a3;have z3:=L.z3;have v3:=L.v3;have t4:=L.t4;have a4:=L.a4;have z4:=L.z4;have v4:=L.v4;have t5:=L.t5;have a5:=L.a5;have z5:=L.z5;have v5:=L.v5;have t9:=L.t9;have a9:=L.a9;have z9:=L.z9;have v9:=L.v9;have t21:=L.t21;have a21:=L.a21;have z21:=L.z21;have v21:=L.v21;have e152:∀args w,(callFunc (ρ.f 152) args).run P w=.ok (.enter (ρ.f 152) args) w:=enters_of L.f152 (by kernel_rfl) rfl
 have e226:∀args w,(callFunc (ρ.f 226) args).run P w=.ok (.enter (ρ.f 226) args) w:=enters_of L.f226 (by kernel_rfl) rfl
 go_enter L.f153,Body.n153_ntmps ρ
 go_wp2_with (go_at_fn (ρ.f 226);refine(Any.strings_shouldUseASCIISet {L with} _ _).mono ?_;rintro e w' ⟨rfl,hw⟩;rw[hw,h8z])
 go_loopg [9,10] s.size (fun g _ _ wx=>∃i:Nat,i<=s.size/\s.size-i<=g/\wx.heap[w.heap.size]? =some (.stringIter s i)/\Aside (Below w.heap.size w wx)/\Aside (Lib.NoAny s.data.toList chars.data.toList i))
 case atStart=>exact⟨0,by omega,by omega,World.iter_heap _ _ _,(Below.refl _ _).alloc (Nat.le_refl _) _,Lib.NoAny.zero _ _⟩
 case round=>
  obtain⟨i,hi,hg,hk,qm,HN⟩:=hrel;by_cases hlt:i<s.size
  ·obtain⟨x,hx⟩:∃x:UInt8,s[i]'hlt=x:=⟨_,rfl⟩;have hxl:s.data.toList[i]? =some x:=by rw[<-hx];exact Lib.data_getElem? s i hlt
   have Hx:Aside (s.data.toList[i]? =some x):=hxl;have hkl:=(Array.getElem?_eq_some_iff.1 hk).1;by_cases hx128:x.toNat<128
   ·have hnx:=fun ty=>run_next_ascii_at (P:=P) _ w.heap.size s i ty hk hlt (by rw[hx];exact hx128)
    rw[hx] at hnx;have hio:=iterAt_heap _ w.heap.size s i (i+1) hk;have hbo:Aside (Below w.heap.size w _):=below_iterAt qm.out (Nat.le_refl _) s (i+1);clear hxl hx;have hcon:=Lib.contains_iff_indexByte chars.data.toList x;have hback:((x.toNat:Int)).toNat.toUInt8=x:=by simp
    cases hin:chars.data.toList.contains x
    ·rw[hin] at hcon;have hlt2:¬((0:Int)<=Lib.indexByte chars.data.toList x):=of_decide_eq_false hcon.symm;clear hcon
     go_wp2_with (go_at_fn (ρ.f 152);refine(Any.strings_IndexRune_ascii {L with} _ _ _ (by omega) (by omega)).mono ?_;rintro e w' ⟨rfl,hw⟩;rw[hw,hback])
     go_roundg (s.size-(i+1))
     case measure=>omega
     case rel=>exact⟨i+1,by omega,by omega,hio,hbo,HN.out.succ Hx.out hin⟩
    ·rw[hin] at hcon;have hge:(0:Int)<=Lib.indexByte chars.data.toList x:=of_decide_eq_true hcon.symm;clear hcon
     go_wp2_with (go_at_fn (ρ.f 152);refine(Any.strings_IndexRune_ascii {L with} _ _ _ (by omega) (by omega)).mono ?_;rintro e w' ⟨rfl,hw⟩;rw[hw,hback])
     go_ret
     exact⟨by rw[Lib.indexAny_hit HN.out Hx.out hin];rfl,hbo.out⟩
   ·have hhi:128<=(s[i]'hlt).toNat:=by rw[hx];omega
    have hnx:=fun ty=>run_next_any_at (P:=P) _ w.heap.size s i ty hk hlt
    have hd1:=decode_high s i hlt hhi;have hd2:=decode_le s i;have hsk:Aside (∀j,j<(Utf8.decode s i).2->i+j<s.size/\∀b,s.data.toList[i+j]? =some b->128<=b.toNat):=age s i hlt hhi;generalize(Utf8.decode s i).1=c at hnx hd1 hd2;generalize(Utf8.decode s i).2=d at hnx hd1 hsk;have hle:i+d<=s.size:=by
     have:=(hsk.out (d-1) (by omega)).1
     omega
    have hio:=iterAt_heap _ w.heap.size s i (i+d) hk;have hbo:Aside (Below w.heap.size w _):=below_iterAt qm.out (Nat.le_refl _) s (i+d);have hno:Aside (Lib.NoAny s.data.toList chars.data.toList (i+d)):=fun j b hj hb=>by
     by_cases hji:j<i
     ·exact HN.out j b hji hb
     ·have h3:=(hsk.out (j-i) (by omega)).2 b (by rw[show i+(j-i)=j by omega];exact hb)
      cases hc:chars.data.toList.contains b with
      |false=>rfl
      |true=>
       have hm:b∈chars.data.toList:=by simpa using hc
       obtain⟨k,hk2⟩:=List.getElem?_of_mem hm;have:=HA.out k b hk2;omega
    have hneg:¬((0:Int)<=-1):=by decide
    have hc0:(128:Int)<=(c:Int):=by omega
    have hc1:((c:Nat):Int)<=2147483647:=by omega
    clear hxl hx
    go_wp2_with (go_at_fn (ρ.f 152);refine(Any.afj {L with} _ _ _ hc0 hc1 hcs HA.out).mono ?_;rintro e w' ⟨rfl,hbw⟩)
    go_roundg (s.size-(i+d))
    case measure=>omega
    case rel=>exact⟨i+d,hle,by omega,(hbw.block _ (by simpa[iterAt_size] using hkl)).trans hio,hbo.out.trans (hbw.mono (by rw[iterAt_size];omega)),hno.out⟩
  ·obtain rfl:i=s.size:=by omega
   have hnx:=fun ty=>run_next_end_at (P:=P) _ w.heap.size s s.size ty hk (by omega)
   go_wp2
   go_ret
   exact⟨by rw[Lib.indexAny_none (by rw[<-Lib.size_eq];exact HN.out)];rfl,qm.out⟩
theorem Any.afl(L:Lays.n153 P ρ)(h116:(P.info? (ρ.t 116)).map (fun i=>(i.zero,i.size))=some (some (.agg (Array.replicate 256 (.bool false))),256))(s chars:ByteArray)(w:World)(hs:s.size<4294967281)(h2:2<=chars.size)(hcs:chars.size<=1000000)(hac:pR chars):
  Calls P (ρ.f 153) #[.string s,.string chars] w fun e w'=>e=.returned (.int .i64 (Lib.indexAny s.data.toList chars.data.toList))/\Below w.heap.size w w':=by
 by_cases h8:s.size<=8
 ·exact Any.aek L s chars w h2 h8 hcs hac
 ·refine(Any.strings_IndexAny_long L (zero_of_info h116).1 (zero_of_info h116).2 s chars w h2 (by omega) hs (by omega) hac).mono fun e w' ⟨h1,h2⟩=>⟨h1,?_⟩
  rw[h2];exact((Below.refl _ _).alloc (Nat.le_refl _) _).alloc (by simp) _
end Go.Proofs
namespace Go.Proofs
open Go.Jk
noncomputable def WV:aD:=Fh
theorem aqg:aB O 214 WV:=ai5 (fun _ _=>enters_of Tryz.func214 (by kernel_rfl) rfl _ _) fun s p w h1 h2 h3 aA=>Any.afl Tryz.anc (by kernel_rfl) s p w h1 h2 h3 aA
noncomputable abbrev auI:a_:=[(102,xe),(214,WV),(215,_d)]
theorem aao:aR O (aX ad auI):=aV ⟨C6,aqg,arV,⟨⟩⟩
abbrev Td:Shape:=⟨[ak 0,ay 2 2 0,ay 4 4 0],[ax 2 [ah,a6,ah],ax 4 [ah,a6,ah]],49⟩
abbrev SU:List aP:=[(.norm,⟨[ay 2 2 0,ay 4 4 0],[ax 2 [ah,a6,ah],ax 4 [ah,a6,ah]],49⟩),(.ret,⟨[ay 2 2 0,ap 3],[ax 2 [ah,a6,ah]],49⟩)]
noncomputable def nb(y:Td.J):Option (aC SU):=
(q' y.1.1 ([61,60,62]:B)).bind fun a=>
 bif(decide ((Lib.indexAny y.1.1 ([61,60,62]:B))>=(0:Int))) then
(bm y.1.1 (0:Int) (Lib.indexAny y.1.1 ([61,60,62]:B))).bind fun b=>
(bm y.1.1 (Lib.indexAny y.1.1 ([61,60,62]:B)) (y.1.1.length:Int)).bind fun c=>
(f215 ((c,([62,61]:B),()),())).bind fun d=>
 bif d.1.1 then
(bm c (2:Int) (c.length:Int)).bind fun e=>
 some (.inl (((),(),()),(y.2.1.1,y.2.1.2.1,y.2.1.2.2.1,()),(b,(2:Int),e,()),()))
else
(aO c (0:Int)).bind fun f=>
 bif((f.toNat:Int)==(61:Int)) then
(bm c (1:Int) (c.length:Int)).bind fun g=>
 some (.inl (((),(),()),(y.2.1.1,y.2.1.2.1,y.2.1.2.2.1,()),(b,(1:Int),g,()),()))
else
(aO c (0:Int)).bind fun h=>
 bif((h.toNat:Int)==(60:Int)) then
(bm c (1:Int) (c.length:Int)).bind fun i=>
 some (.inl (((),(),()),(y.2.1.1,y.2.1.2.1,y.2.1.2.2.1,()),(b,(3:Int),i,()),()))
else
 some (.inr (((),false,()),(([]:B),(0:Int),([]:B),()),()))
else
 some (.inl (((),(),()),(y.2.1.1,y.2.1.2.1,y.2.1.2.2.1,()),(y.2.2.1.1,y.2.2.1.2.1,y.2.2.1.2.2.1,()),()))
theorem amA:aT O (an (codeOf Tryz.f169) 1 14) (aU Td SU nb):=ce aao (by kernel_rfl) ae fun y=>by kernel_rfl
abbrev i169:Shape:=⟨[ak 0],[],49⟩
abbrev Yq:Shape:=⟨[ay 2 2 0,ap 3],[ax 2 [ah,a6,ah]],49⟩
noncomputable def f169(a:i169.J):Option Yq.J:=
(nb ((a.1.1,(),(),()),(([]:B),(0:Int),([]:B),()),(a.1.1,(0:Int),([]:B),()),())).bind fun b=>
(match b with
|.inl c=>
(f102 (((c.2.2.1.1,c.2.2.1.2.1,c.2.2.1.2.2.1,()),()),())).bind fun d=>
 bif(!d.1.1) then
 some (((),false,()),(([]:B),(0:Int),([]:B),()),())
else
 some (((),true,()),(c.2.2.1.1,c.2.2.1.2.1,c.2.2.1.2.2.1,()),())
|.inr e=>
 some (((),e.1.2.1,()),(e.2.1.1,e.2.1.2.1,e.2.1.2.2.1,()),()))
noncomputable def _C:aD:=aH ad Tryz.f169 i169 Yq [] f169
theorem ase:aB O 169 _C:=aK aao Tryz.func169 (by kernel_rfl) (a8 amA ae) (fun y=>by kernel_rfl) fun a=>by kernel_rfl
def eU:B:=[61,60,62]
theorem Rb:∀s:B,((∀y,y∈s->eU.contains y=false)/\Lib.indexAny s eU=-1)\/∃a x r,s=a++x::r/\eU.contains x=true/\(∀y,y∈a->eU.contains y=false)/\Lib.indexAny s eU=(a.length:Int):=by
 intro s;induction s with
 |nil=>exact .inl ⟨fun y h=>(by cases h),rfl⟩
 |cons b l ih=>
  unfold Lib.indexAny;cases hb:eU.contains b with
  |true=>exact .inr ⟨[],b,l,rfl,hb,fun y h=>(by cases h),rfl⟩
  |false=>
   rcases ih with⟨h1,h2⟩|⟨a,x,r,h1,h2,h3,aA⟩
   ·refine .inl ⟨fun y hy=>?_,?_⟩
    ·rcases List.mem_cons.1 hy with rfl|hy
     ·exact hb
     ·exact h1 y hy
    ·rw[h2];simp
   ·refine .inr ⟨b::a,x,r,by rw[h1];rfl,h2,fun y hy=>?_,?_⟩
    ·rcases List.mem_cons.1 hy with rfl|hy
     ·exact hb
     ·exact h3 y hy
    ·rw[aA];have:((a.length:Int)==-1)=false:=by rw[beq_eq_false_iff_ne];omega
     simp[this]
theorem anP{a r:B}{x:UInt8}(ha:∀y,y∈a->eU.contains y=false)(hx:eU.contains x=true):Lib.indexAny (a++x::r) eU=(a.length:Int):=by
 induction a with
 |nil=>show Lib.indexAny (x::r) eU=_;unfold Lib.indexAny;rw[hx];rfl
 |cons b a ih=>
  show Lib.indexAny (b::(a++x::r)) eU=_;unfold Lib.indexAny;have hb:=ha b List.mem_cons_self;rw[hb,ih fun y hy=>ha y (List.mem_cons_of_mem _ hy)]
  have:((a.length:Int)==-1)=false:=by rw[beq_eq_false_iff_ne];omega
  simp[this]
theorem apv{s:B}(h:∀y,y∈s->eU.contains y=false):Lib.indexAny s eU=-1:=by
 rcases Rb s with⟨_,h2⟩|⟨a,x,r,h1,h2,_,_⟩
 ·exact h2
 ·have:=h x (by rw[h1];simp)
  rw[h2] at this;cases this
theorem alB{s:B}(h:s.length<=1000000):q' s ([61,60,62]:B)=some ():=by
 unfold q';exact if_pos ⟨by omega,by decide,by decide,by decide⟩
def pw(a t:B):Option bx:=match t with
 |62::61::r=>some ⟨a,2,r⟩
 |61::r=>some ⟨a,1,r⟩
 |60::r=>some ⟨a,3,r⟩
 |_=>none
def kM(s:B):Option bx:=match Lib.indexAny s eU with
 |.ofNat k=>pw (s.take k) (s.drop k)
 |_=>some ⟨s,0,[]⟩
def eJ(s:B):Option bx:=match kM s with
 |some n=>bif dD n then some n else none
 |none=>none
def iw:bx:=⟨[],0,[]⟩
theorem P8(s:B)(hs:s.length<=1000000):f169 ((s,()),())=some (((),((eJ s).isSome,())),((((eJ s).getD iw).name,(((eJ s).getD iw).kind,(((eJ s).getD iw).aW,()))),())):=by
 have hk:∀n:bx,n.name.length<=1000000->n.aW.length<=1000000->f102 (((n.name,(n.kind,(n.aW,()))),()),())=some ((dD n,()),()):=fun n h1 h2=>
  yS (((n.name,(n.kind,(n.aW,()))),()),()) (by show n.name.length<=2097152;omega) (by show n.aW.length<=2097152;omega)
 have fin:∀n:bx,n.name.length<=1000000->n.aW.length<=1000000->kM s=some n->
   nb ((s,((),((),()))),((([]:B),((0:Int),(([]:B),()))),((s,((0:Int),(([]:B),()))),())))=some (.inl (((),((),())),((([]:B),((0:Int),(([]:B),()))),((n.name,(n.kind,(n.aW,()))),()))))->
   f169 ((s,()),())=some (((),((eJ s).isSome,())),((((eJ s).getD iw).name,(((eJ s).getD iw).kind,(((eJ s).getD iw).aW,()))),())):=by
  intro n h1 h2 hr hg;have uv:=hk n h1 h2;have hG:eJ s=bif dD n then some n else none:=by unfold eJ;rw[hr]
  simp only[f169,hg,Option.bind_some,uv,hG];cases dD n<;>rfl
 have dX:q' s ([61,60,62]:B)=some ():=alB hs;rcases Rb s with⟨_,h2⟩|⟨a,x,r,h1,h2,h3,aA⟩
 ·refine fin ⟨s,0,[]⟩ hs (by simp) (by unfold kM;rw[h2];rfl) ?_
  have h2:Lib.indexAny s ([61,60,62]:B)=-1:=h2;have Z:decide ((-1:Int)>=0)=false:=rfl;simp only[nb,dX,Option.bind_some,h2,Z,cond_false]
 ·have oN:Lib.indexAny s ([61,60,62]:B)=(a.length:Int):=aA;have Z:decide ((a.length:Int)>=0)=true:=decide_eq_true (by omega)
  have hl:s.length=a.length+(x::r).length:=by rw[h1];simp
  have e1:bm s 0 ((a.length:Nat):Int)=some a:=by rw[fY (by omega),h1];simp
  have e2:bm s ((a.length:Nat):Int) ((s.length:Nat):Int)=some (x::r):=by rw[fw (by omega),h1];simp
  have hp:=aeZ (x::r) [62,61];have oE:aO (x::r) (0:Int)=some x:=rfl;have dV:kM s=pw a (x::r):=by
   unfold kM;rw[aA];have d1:s.drop a.length=x::r:=by rw[h1];simp
   have d2:s.take a.length=a:=by rw[h1];simp
   show pw (s.take a.length) (s.drop a.length)=_;rw[d1,d2]
  have no:kM s=none->nb ((s,((),((),()))),((([]:B),((0:Int),(([]:B),()))),((s,((0:Int),(([]:B),()))),())))=some (.inr (((),(false,())),((([]:B),((0:Int),(([]:B),()))),())))->
    f169 ((s,()),())=some (((),((eJ s).isSome,())),((((eJ s).getD iw).name,(((eJ s).getD iw).kind,(((eJ s).getD iw).aW,()))),())):=by
   intro hr hg;simp only[f169,hg,Option.bind_some];unfold eJ;rw[hr];rfl
  have hx:x=61\/x=60\/x=62:=by simpa[eU] using h2
  have uB:a.length<=1000000:=by omega
  have mG:r.length<=1000000:=by simp at hl;omega
  rcases hx with rfl|rfl|rfl
  ·have hn:dW [62,61] (61::r)=none:=by unfold dW;cases r<;>simp
   rw[hn] at hp;refine fin ⟨a,1,r⟩ uB mG dV ?_
   have br:bm (61::r) 1 (((61::r).length:Nat):Int)=some r:=fw (xs:=61::r) (a:=1) (by simp)
   have t1:((((61:UInt8).toNat:Nat):Int)==61)=true:=rfl;simp only[nb,dX,Option.bind_some,oN,Z,cond_true,e1,e2,hp,Option.isSome_none,cond_false,oE,t1,br]
  ·have hn:dW [62,61] (60::r)=none:=by unfold dW;cases r<;>simp
   rw[hn] at hp;refine fin ⟨a,3,r⟩ uB mG dV ?_
   have br:bm (60::r) 1 (((60::r).length:Nat):Int)=some r:=fw (xs:=60::r) (a:=1) (by simp)
   have t1:((((60:UInt8).toNat:Nat):Int)==61)=false:=rfl;have t2:((((60:UInt8).toNat:Nat):Int)==60)=true:=rfl;simp only[nb,dX,Option.bind_some,oN,Z,cond_true,e1,e2,hp,Option.isSome_none,cond_false,oE,t1,t2,br]
  ·have t1:((((62:UInt8).toNat:Nat):Int)==61)=false:=rfl;have t2:((((62:UInt8).toNat:Nat):Int)==60)=false:=rfl;cases r with
   |nil=>
    have hn:dW [62,61] ([62]:B)=none:=by decide
    rw[hn] at hp;refine no dV ?_
    simp only[nb,dX,Option.bind_some,oN,Z,cond_true,e1,e2,hp,Option.isSome_none,cond_false,oE,t1,t2]
   |cons b r=>
    by_cases hb:b=61
    ·subst hb;have hn:dW [62,61] (62::61::r)=some r:=vn [62,61] r;rw[hn] at hp;refine fin ⟨a,2,r⟩ uB (by simp at mG;show r.length<=1000000;omega) dV ?_
     have br:bm (62::61::r) 2 (((62::61::r).length:Nat):Int)=some r:=fw (xs:=62::61::r) (a:=2) (by simp)
     simp only[nb,dX,Option.bind_some,oN,Z,cond_true,e1,e2,hp,Option.isSome_some,br]
    ·have hn:dW [62,61] (62::b::r)=none:=by
      have hb2:(b==61)=false:=by simpa using hb
      unfold dW;simp[hb2]
     rw[hn] at hp;refine no (dV.trans ?_) ?_
     ·unfold pw;split
      ·rename_i h;simp at h;exact absurd h.1 hb
      ·rename_i h;simp at h
      ·rename_i h;simp at h
      ·rfl
     ·simp only[nb,dX,Option.bind_some,oN,Z,cond_true,e1,e2,hp,Option.isSome_none,cond_false,oE,t1,t2]
theorem RL{s:B}(h:∀x,x∈s->(97<=x.toNat/\x.toNat<=122)\/(48<=x.toNat/\x.toNat<=57)):∀y,y∈s->eU.contains y=false:=by
 intro y hy;have:=h y hy;cases hc:eU.contains y with
 |false=>rfl
 |true=>
  have hx:y=61\/y=60\/y=62:=by simpa[eU] using hc
  rcases hx with rfl|rfl|rfl<;>simp at this
theorem aie{n:bx}(h:dD n=true):kM (cK n)=some n:=by
 obtain⟨h1,h2⟩:=yu h;have hno:=RL (EU h1);obtain⟨bN,k,v⟩:=n;have key:∀(x:UInt8) (t:B),eU.contains x=true->kM (bN++x::t)=pw bN (x::t):=by
  intro x t hx;unfold kM;rw[anP hno hx];have d1:(bN++x::t).drop bN.length=x::t:=by simp
  have d2:(bN++x::t).take bN.length=bN:=by simp
  show pw ((bN++x::t).take bN.length) ((bN++x::t).drop bN.length)=_;rw[d1,d2]
 rcases h2 with⟨hk,hv⟩|⟨hk,hv⟩
 ·have hk:k=0:=hk;have hv:v=[]:=hv;subst hk hv;have e:cK ⟨bN,0,[]⟩=bN:=by unfold cK dN;simp
  rw[e];unfold kM;rw[apv hno];rfl
 ·rcases hk with hk|hk|hk
  ·have hk:k=1:=hk;subst hk;have e:cK ⟨bN,1,v⟩=bN++61::v:=by unfold cK dN;simp
   rw[e,key 61 v (by decide)];rfl
  ·have hk:k=2:=hk;subst hk;have e:cK ⟨bN,2,v⟩=bN++62::61::v:=by unfold cK dN;simp
   rw[e,key 62 (61::v) (by decide)];rfl
  ·have hk:k=3:=hk;subst hk;have e:cK ⟨bN,3,v⟩=bN++60::v:=by unfold cK dN;simp
   rw[e,key 60 v (by decide)];rfl
theorem ak9{n:bx}(h:dD n=true):eJ (cK n)=some n:=by
 unfold eJ;rw[aie h];simp[h]
noncomputable abbrev auH:a_:=[(114,xc),(115,Dt),(216,_c)]
theorem DA:aR O (aX ad auH):=aV ⟨C5,Kv,arU,⟨⟩⟩
abbrev Tc:Shape:=⟨[ay 2 2 0,ak 3,ap 4,ak 6,ap 7,aL 8 .str],[ax 2 [ah,a6,a6,ah]],110⟩
abbrev SS:List aP:=[(.norm,⟨[ay 2 2 0,ak 3,ap 4,ak 6,aL 8 .str,ap 26],[ax 2 [ah,a6,a6,ah]],110⟩)]
noncomputable def vS(y:Tc.J):Option (aC SS):=
 bif(!(!y.1.2.2.2.2.1)) then
 some (((),y.1.2.1,y.1.2.2.1,y.1.2.2.2.1,y.1.2.2.2.2.2.1,(decide ((y.1.2.2.2.2.2.1.length:Int)<(3:Int))),()),(y.2.1.1,y.2.1.2.1,y.2.1.2.2.1,y.2.1.2.2.2.1,()),())
else
 some (((),y.1.2.1,y.1.2.2.1,y.1.2.2.2.1,y.1.2.2.2.2.2.1,true,()),(y.2.1.1,y.2.1.2.1,y.2.1.2.2.1,y.2.1.2.2.2.1,()),())
theorem amz:aT O (an (codeOf Tryz.f170) 1 60) (aU Tc SS vS):=ce DA (by kernel_rfl) ae fun y=>by kernel_rfl
abbrev Qz:Shape:=⟨[ay 2 2 0,ak 3,ap 4,ak 6,aL 8 .str,ag 9],[ax 2 [ah,a6,a6,ah]],110⟩
abbrev Qg:List aP:=[(.norm,⟨[ay 2 2 0,ak 3,ap 4,ak 6,aL 8 .str,ag 9,ap 74],[ax 2 [ah,a6,a6,ah]],110⟩)]
noncomputable def F7(y:Qz.J):Option (aC Qg):=
(aO y.1.2.2.2.2.1 (0:Int)).bind fun a=>
 bif(!(!(a==([102,105,108,101]:B)))) then
 some (((),y.1.2.1,y.1.2.2.1,y.1.2.2.2.1,y.1.2.2.2.2.1,y.1.2.2.2.2.2.1,((y.1.2.2.2.2.1.length:Int) !=(4:Int)),()),(y.2.1.1,y.2.1.2.1,y.2.1.2.2.1,y.2.1.2.2.2.1,()),())
else
 some (((),y.1.2.1,y.1.2.2.1,y.1.2.2.2.1,y.1.2.2.2.2.1,y.1.2.2.2.2.2.1,true,()),(y.2.1.1,y.2.1.2.1,y.2.1.2.2.1,y.2.1.2.2.2.1,()),())
theorem aiu:aT O (an (codeOf Tryz.f170) 1 2044) (aU Qz Qg F7):=ce DA (by kernel_rfl) ae fun y=>by kernel_rfl
abbrev Qy:Shape:=⟨[ay 2 2 0,ak 3,ap 4,ak 6,aL 8 .str,ag 9,ap 10,ag 11],[ax 2 [ah,a6,a6,ah]],110⟩
abbrev Qf:List aP:=[(.norm,⟨[ay 2 2 0,ak 3,ap 4,ak 6,aL 8 .str,ag 9,ag 11,ap 96],[ax 2 [ah,a6,a6,ah]],110⟩)]
noncomputable def F6(y:Qy.J):Option (aC Qf):=
 bif(!(!y.1.2.2.2.2.2.2.1)) then
 bif(!(decide ((y.1.2.2.2.1.length:Int)<=y.1.2.2.2.2.2.2.2.1))) then
(aO y.1.2.2.2.1 y.1.2.2.2.2.2.2.2.1).bind fun a=>
 some (((),y.1.2.1,y.1.2.2.1,y.1.2.2.2.1,y.1.2.2.2.2.1,y.1.2.2.2.2.2.1,y.1.2.2.2.2.2.2.2.1,((a.toNat:Int) !=(10:Int)),()),(y.2.1.1,y.2.1.2.1,y.2.1.2.2.1,y.2.1.2.2.2.1,()),())
else
 some (((),y.1.2.1,y.1.2.2.1,y.1.2.2.2.1,y.1.2.2.2.2.1,y.1.2.2.2.2.2.1,y.1.2.2.2.2.2.2.2.1,true,()),(y.2.1.1,y.2.1.2.1,y.2.1.2.2.1,y.2.1.2.2.2.1,()),())
else
 some (((),y.1.2.1,y.1.2.2.1,y.1.2.2.2.1,y.1.2.2.2.2.1,y.1.2.2.2.2.2.1,y.1.2.2.2.2.2.2.2.1,true,()),(y.2.1.1,y.2.1.2.1,y.2.1.2.2.1,y.2.1.2.2.2.1,()),())
theorem ait:aT O (an (codeOf Tryz.f170) 1 8188) (aU Qy Qf F6):=ce DA (by kernel_rfl) ae fun y=>by kernel_rfl
abbrev i170:Shape:=⟨[ak 0],[],110⟩
abbrev KM:Shape:=⟨[ay 2 2 0,ak 3,ap 4],[ax 2 [ah,a6,a6,ah]],110⟩
noncomputable def f170(a:i170.J):Option KM.J:=
(f114 ((a.1.1,([10]:B),()),())).bind fun b=>
(f216 ((b.1.1,([32]:B),(5:Int),()),())).bind fun c=>
(vS (((),([]:B),false,b.1.2.1,b.1.2.2.1,c.1.1,()),(([]:B),(0:Int),(0:Int),([]:B),()),())).bind fun d=>
 bif d.1.2.2.2.2.2.1 then
 some (((),([]:B),false,()),(([]:B),(0:Int),(0:Int),([]:B),()),())
else
(aO d.1.2.2.2.2.1 (0:Int)).bind fun e=>
 bif(e==([108,105,110,107]:B)) then
(aO d.1.2.2.2.2.1 (1:Int)).bind fun f=>
(aO d.1.2.2.2.2.1 (2:Int)).bind fun g=>
 some (((),d.1.2.2.2.1,((d.1.2.2.2.2.1.length:Int)==(3:Int)),()),(f,(3:Int),(0:Int),g,()),())
else
(aO d.1.2.2.2.2.1 (1:Int)).bind fun h=>
(f115 ((h,(7:Int),()),())).bind fun i=>
 bif(!i.1.2.1) then
 some (((),([]:B),false,()),(([]:B),(0:Int),(0:Int),([]:B),()),())
else
(aO d.1.2.2.2.2.1 (0:Int)).bind fun j=>
 bif(j==([100,105,114]:B)) then
(aO d.1.2.2.2.2.1 (2:Int)).bind fun k=>
 some (((),d.1.2.2.2.1,((d.1.2.2.2.2.1.length:Int)==(3:Int)),()),(k,(1:Int),i.1.1,([]:B),()),())
else
(F7 (((),d.1.2.1,d.1.2.2.1,d.1.2.2.2.1,d.1.2.2.2.2.1,i.1.1,()),(d.2.1.1,d.2.1.2.1,d.2.1.2.2.1,d.2.1.2.2.2.1,()),())).bind fun l=>
 bif l.1.2.2.2.2.2.2.1 then
 some (((),([]:B),false,()),(([]:B),(0:Int),(0:Int),([]:B),()),())
else
(aO l.1.2.2.2.2.1 (3:Int)).bind fun m=>
(f115 ((m,(80:Int),()),())).bind fun n=>
(F6 (((),l.1.2.1,l.1.2.2.1,l.1.2.2.2.1,l.1.2.2.2.2.1,l.1.2.2.2.2.2.1,n.1.2.1,n.1.1,()),(l.2.1.1,l.2.1.2.1,l.2.1.2.2.1,l.2.1.2.2.2.1,()),())).bind fun D=>
 bif D.1.2.2.2.2.2.2.2.1 then
 some (((),([]:B),false,()),(([]:B),(0:Int),(0:Int),([]:B),()),())
else
(aO D.1.2.2.2.2.1 (2:Int)).bind fun p=>
(bm D.1.2.2.2.1 (0:Int) D.1.2.2.2.2.2.2.1).bind fun q=>
(bm D.1.2.2.2.1 (IntKind.i64.wrap (D.1.2.2.2.2.2.2.1+(1:Int))) (D.1.2.2.2.1.length:Int)).bind fun r=>
 some (((),r,true,()),(p,(2:Int),D.1.2.2.2.2.2.1,q,()),())
noncomputable def _B:aD:=aH ad Tryz.f170 i170 KM [] f170
theorem asd:aB O 170 _B:=aK DA Tryz.func170 (by kernel_rfl) (a8 amz (a8 aiu (a8 ait ae))) (fun y=>by kernel_rfl) fun a=>by kernel_rfl
def CH(aZ w2 cd r:B):Option (aw×B):=bif fl 80 cd then(match r.drop (de cd).toNat with|10::eH=>some (⟨w2,2,de aZ,r.take (de cd).toNat⟩,eH)|_=>none) else none
def jS(ws:List B)(r:B):Option (aw×B):=match ws with
 |U::aZ::w2::more=>
  bif U==hU then(bif more==[] then some (⟨aZ,3,0,w2⟩,r) else none)
  else bif fl 7 aZ then
   (bif U==hX then(bif more==[] then some (⟨w2,1,de aZ,[]⟩,r) else none)
   else bif U==im then(match more with|[cd]=>CH aZ w2 cd r|_=>none) else none)
  else none
 |_=>none
def nj(s:B):Option (aw×B):=match dw 10 s with
 |some (bW,r)=>jS (splitN 32 4 bW) r
 |none=>none
theorem ago{m:Int}{s:B}(h:fl m s=true):0<=de s/\de s<=m:=by
 unfold fl at h;simp only[Bool.and_eq_true,decide_eq_true_eq] at h;refine⟨?_,h.2⟩;have key:∀(s:B) (n:Int),s.all cP=true->0<=n->0<=s.foldl ef n:=by
  intro s;induction s with
  |nil=>intro n _ h;exact h
  |cons b s ih=>
   intro n Z hn;simp only[List.all_cons,Bool.and_eq_true] at Z;have hb:=iP Z.1;refine ih _ Z.2 ?_
   unfold ef;omega
 exact key s 0 h.1.1.1.1 (by decide)
theorem qo(c:UInt8):∀(k:Nat) (s p:B),p∈splitN c k s->p.length<=s.length:=by
 intro k;induction k with
 |zero=>intro s p h;simp[splitN] at h;subst h;exact Nat.le_refl _
 |succ k ih=>
  intro s p h;unfold splitN at h;cases hc:dw c s with
  |none=>rw[hc] at h;simp at h;subst h;exact Nat.le_refl _
  |some q=>
   obtain⟨x,y⟩:=q;rw[hc] at h;have hl:=(jk hc).1;have hl:s.length=x.length+1+y.length:=by rw[hl];simp;omega
   rcases List.mem_cons.1 h with rfl|h
   ·omega
   ·have:=ih y p h;omega
theorem as4{aJ:Type}(a b c:aJ)(l:List aJ):decide (((a::b::c::l).length:Int)<3)=false:=decide_eq_false (by simp;omega)
theorem ayG{aJ:Type}[BEq aJ](a b c:aJ)(l:List aJ):(((a::b::c::l).length:Int)==3)=(l==[]):=by
 cases l with
 |nil=>rfl
 |cons x l=>
  have h:((x::l)==([]:List aJ))=false:=rfl;rw[h,beq_eq_false_iff_ne];simp;omega
theorem OO(s:B)(hs:s.length<=1000000):∃(r:B) (e:aw),f170 ((s,()),())=some (((),(r,((nj s).isSome,()))),((e.path,(e.kind,(e.mode,(e.text,())))),()))/\∀q,nj s=some q->q=(e,r):=by
 have hc:=nh 10 s (by unfold au;omega)
 have hc:f114 ((s,(([10]:B),())),())=_:=hc;have zero:∀{D:Option (aw×B)} {x:Option KM.J},D=none->x=some (((),(([]:B),(false,()))),((([]:B),((0:Int),((0:Int),(([]:B),())))),()))->
   ∃(r:B) (e:aw),x=some (((),(r,(D.isSome,()))),((e.path,(e.kind,(e.mode,(e.text,())))),()))/\∀q,D=some q->q=(e,r):=by
  intro D x aM hx;subst aM;exact⟨[],⟨[],0,0,[]⟩,hx,fun q az=>by cases az⟩
 cases az:dw 10 s with
 |none=>
  have hw:=P6 (hd 10 s) (by unfold hd;rw[az];show s.length<=1000000000;omega)
  rw[az] at hc;refine zero (by unfold nj;rw[az]) ?_
  simp only[f170,hc,Option.bind_some,hw,vS,Option.isSome_none,Bool.not_false,Bool.not_true,cond_false,cond_true]
 |some q=>
  obtain⟨bW,rest⟩:=q;have hl:=(jk az).1;have hl:s.length=bW.length+1+rest.length:=by rw[hl];simp;omega
  have ha:hd 10 s=bW:=by unfold hd;rw[az]
  have hb:g' 10 s=rest:=by unfold g';rw[az]
  have hw:=P6 bW (by omega)
  rw[az,ha,hb] at hc;have hr:nj s=jS (splitN 32 4 bW) rest:=by unfold nj;rw[az]
  have hm:=qo 32 4 bW;rw[hr];generalize splitN 32 4 bW=ws at hw hm;have short:decide ((ws.length:Int)<3)=true->jS ws rest=none->∃(r:B) (e:aw),f170 ((s,()),())=some (((),(r,((jS ws rest).isSome,()))),((e.path,(e.kind,(e.mode,(e.text,())))),()))/\∀q,jS ws rest=some q->q=(e,r):=by
   intro h1 h2;refine zero h2 ?_
   simp only[f170,hc,Option.bind_some,hw,vS,Option.isSome_some,Bool.not_false,Bool.not_true,cond_false,cond_true,h1]
  match ws,short,hw,hm with
  |[],short,hw,hm=>exact short rfl rfl
  |[_],short,hw,hm=>exact short rfl rfl
  |[_,_],short,hw,hm=>exact short rfl rfl
  |U::aZ::w2::more,_,hw,hm=>
   have fh:aO (U::aZ::w2::more) (0:Int)=some U:=rfl;have eh:aO (U::aZ::w2::more) (1:Int)=some aZ:=rfl;have fT:aO (U::aZ::w2::more) (2:Int)=some w2:=rfl;have h3:=as4 U aZ w2 more;have dF:=ayG U aZ w2 more;have m1:=hm aZ (by simp)
   have n1:=yP aZ 7 (by unfold au;omega)
   simp only[f170,hc,Option.bind_some,hw,vS,Option.isSome_some,Bool.not_false,Bool.not_true,cond_false,cond_true,h3,fh,eh,fT,dF,n1];unfold jS;have CR:(U==([108,105,110,107]:B))=(U==hU):=rfl;have w4:(U==([100,105,114]:B))=(U==hX):=rfl;have tD:(U==([102,105,108,101]:B))=(U==im):=rfl;simp only[CR,w4];cases eT:U==hU with
   |true=>
    simp only[cond_true];refine⟨rest,⟨aZ,3,0,w2⟩,?_,fun q az=>?_⟩
    ·cases more==[]<;>rfl
    ·cases MB:more==[]<;>rw[MB] at az<;>simp at az
     exact az.symm
   |false=>
    simp only[cond_false];cases EA:fl 7 aZ with
    |false=>
     simp only[Bool.not_false,cond_true,cond_false];exact zero rfl rfl
    |true=>
     simp only[Bool.not_true,cond_true,cond_false];cases EB:U==hX with
     |true=>
      simp only[cond_true];refine⟨rest,⟨w2,1,de aZ,[]⟩,?_,fun q az=>?_⟩
      ·cases more==[]<;>rfl
      ·cases MB:more==[]<;>rw[MB] at az<;>simp at az
       exact az.symm
     |false=>
      simp only[cond_false,F7,fh,Option.bind_some,tD];cases aCJ:U==im with
      |false=>
       simp only[Bool.not_false,Bool.not_true,cond_true,cond_false,Option.bind_some];exact zero rfl rfl
      |true=>
       simp only[Bool.not_false,Bool.not_true,cond_true,cond_false,Option.bind_some];match more,hm,fh,eh,fT,h3,dF,hw with
       |[],hm,fh,eh,fT,h3,dF,hw=>exact zero rfl rfl
       |cd::k9::m,hm,fh,eh,fT,h3,dF,hw=>
        have:((((U::aZ::w2::cd::k9::m).length:Nat):Int) !=4)=true:=by rw[bne_iff_ne];simp;omega
        simp only[this,cond_true];exact zero rfl rfl
       |[cd],hm,fh,eh,fT,h3,dF,hw=>
        have aA:(((([U,aZ,w2,cd]:List B).length:Nat):Int) !=4)=false:=rfl;have jE:aO [U,aZ,w2,cd] (3:Int)=some cd:=rfl;have m3:=hm cd (by simp)
        have iO:=yP cd 80 (by unfold au;omega)
        simp only[aA,cond_false,jE,Option.bind_some,iO,F6];unfold CH;cases yh:fl 80 cd with
        |false=>
         simp only[Bool.not_false,Bool.not_true,cond_true,cond_false,Option.bind_some];exact zero rfl rfl
        |true=>
         obtain⟨b1,b2⟩:=ago yh;obtain⟨n,hn⟩:=Int.eq_ofNat_of_zero_le b1;simp only[Bool.not_false,Bool.not_true,cond_true,cond_false,Option.bind_some,hn,Int.toNat_natCast];rw[hn] at b2;by_cases hle:rest.length<=n
         ·have d1:decide (((rest.length:Nat):Int)<=(n:Int))=true:=decide_eq_true (by omega)
          have d2:rest.drop n=[]:=List.drop_eq_nil_of_le hle;simp only[d1,Bool.not_true,cond_false,Option.bind_some,cond_true,d2];exact zero rfl rfl
         ·have d1:decide (((rest.length:Nat):Int)<=(n:Int))=false:=decide_eq_false (by omega)
          obtain⟨b,eH,Z⟩:∃b eH,rest.drop n=b::eH:=by
           cases h:rest.drop n with
           |nil=>have:=List.drop_eq_nil_iff.1 h;omega
           |cons b eH=>exact⟨b,eH,rfl⟩
          have axU:aO rest (n:Int)=some b:=by
           rw[b5];have:rest[n]? =(rest.drop n)[0]? :=by simp
           rw[this,Z];rfl
          simp only[d1,Bool.not_false,cond_true,axU,Option.bind_some,Z];by_cases M1:b=10
          ·subst M1;have t:((((10:UInt8).toNat:Nat):Int) !=10)=false:=rfl;have s1:bm rest 0 (n:Int)=some (rest.take n):=fY (by omega)
           have hw1:IntKind.i64.wrap ((n:Int)+1)=((n+1:Nat):Int):=bX (by unfold au;omega)
           have c':rest.drop (n+1)=eH:=by rw[<-List.drop_drop,Z];rfl
           have s2:bm rest ((n+1:Nat):Int) ((rest.length:Nat):Int)=some eH:=by rw[fw (by omega),c']
           simp only[t,cond_false,s1,hw1,s2,Option.bind_some];exact⟨eH,⟨w2,2,de aZ,rest.take n⟩,rfl,fun q az=>by simp at az;exact az.symm⟩
          ·have t:(((b.toNat:Nat):Int) !=10)=true:=by
            rw[bne_iff_ne];intro h;exact M1 (UInt8.toNat_inj.1 (by show b.toNat=10;omega))
           simp only[t,cond_true];refine zero ?_ rfl;split
           ·rename_i h;cases h;exact absurd rfl M1
           ·rfl
noncomputable abbrev ave:a_:=[(105,xd),(170,_B)]
theorem LS:aR O (aX ad ave):=aV ⟨z105,asd,⟨⟩⟩
abbrev QE:Shape:=⟨[ba 4 3000256,ay 6 6 0,ak 7,ap 8],[a' 3000256 .entry 4 0,ax 6 [ah,a6,a6,ah]],34⟩
abbrev Ql:List aP:=[(.norm,⟨[ba 4 3000256,ay 6 6 0,ak 7,ap 24],[a' 3000256 .entry 4 0,ax 6 [ah,a6,a6,ah]],34⟩)]
noncomputable def sD(y:QE.J):Option (aC Ql):=
 bif(!(!y.1.2.2.2.1)) then
 some (((),(),y.1.2.2.1,((y.2.1.length:Int)==(16:Int)),()),y.2.1,(y.2.2.1.1,y.2.2.1.2.1,y.2.2.1.2.2.1,y.2.2.1.2.2.2.1,()),())
else
 some (((),(),y.1.2.2.1,true,()),y.2.1,(y.2.2.1.1,y.2.2.1.2.1,y.2.2.1.2.2.1,y.2.2.1.2.2.2.1,()),())
theorem aiE:aT O (an (c4 (an (codeOf Tryz.f118) 1 60)) 120 3860) (aU QE Ql sD):=ce LS (by kernel_rfl) ae fun y=>by kernel_rfl
abbrev AQ:Shape:=⟨[ba 4 3000256,ak 5],[a' 3000256 .entry 4 0],34⟩
abbrev H4:List aP:=[(.ret,⟨[ba 2 3000128,ap 3],[a' 3000128 .entry 2 0],34⟩),(.exit 0,⟨[ba 4 3000256],[a' 3000256 .entry 4 0],34⟩)]
noncomputable def qT(y:AQ.J):bG AQ H4:=
 bif(!(y.1.2.1==([]:B))) then
(f170 ((y.1.2.1,()),())).bind fun a=>
(sD (((),(),a.1.2.1,a.1.2.2.1,()),y.2.1,(a.2.1.1,a.2.1.2.1,a.2.1.2.2.1,a.2.1.2.2.2.1,()),())).bind fun b=>
 bif b.1.2.2.2.1 then
 some (.inr (.inl (((),false,()),([]:List aw),())))
else
(b9 48 b.2.1 ([(aw.mk b.2.2.1.1 b.2.2.1.2.1 b.2.2.1.2.2.1 b.2.2.1.2.2.2.1)]:List aw)).bind fun c=>
 some (.inl (((),b.1.2.2.1,()),c,()))
else
 some (.inr (.inr (((),()),y.2.1,())))
noncomputable def vM:AQ.J->Option (aC H4):=bu qT
theorem amU:aT O (an (codeOf Tryz.f118) 1 60) (aU AQ H4 vM):=bI LS (by kernel_rfl) (a8 aiE ae) fun y=>by kernel_rfl
abbrev i118:Shape:=⟨[ak 0],[],34⟩
abbrev Y1:Shape:=⟨[ba 2 3000128,ap 3],[a' 3000128 .entry 2 0],34⟩
noncomputable def f118(a:i118.J):Option Y1.J:=
(vM (((),a.1.1,()),([]:List aw),())).bind fun b=>
(match b with
|.inl c=>
 some (((),c.1.2.1,()),c.2.1,())
|.inr d=>
(f105 ((d.2.1,()),())).bind fun e=>
 bif(!e.1.1) then
 some (((),false,()),([]:List aw),())
else
 some (((),true,()),d.2.1,()))
noncomputable def _5:aD:=aH ad Tryz.f118 i118 Y1 [] f118
theorem asw:aB O 118 _5:=aK LS Tryz.func118 (by kernel_rfl) (a8 amU ae) (fun y=>by kernel_rfl) fun a=>by kernel_rfl
theorem GK{n:Nat}{m:Int}(h:(n:Int)<=m)(ib:n<1000000000):fl m (Lib.itoa (n:Int))=true/\de (Lib.itoa (n:Int))=(n:Int):=by
 rw[n6];exact⟨akO h ib,vT n⟩
theorem OE(ws:List B)(k:Nat)(h:ws≠[])(hn:∀w,w∈ws->b' 32 w)(hk:ws.length<=k+1):splitN 32 k (lD ws)=ws:=by
 have:=PJ h hn;rw[yC 32 k _ (by rw[this];exact hk),this]
theorem QJ{e:aw}(h:eN e=true)(r:B):nj (dY e++r)=some (e,r):=by
 have hw:=(Ft h).1;unfold nj;rw[QT h];show jS (splitN 32 4 (py e)) (wB e r)=_;obtain⟨n,hn,ic⟩:=GL h;obtain⟨g1,g2⟩:=GK (n:=n) (m:=7) (by omega) (by omega)
 have rA:splitN 32 4 (py e)=me e:=OE _ 4 (by unfold me;cases e.kind==1<;>cases e.kind==3<;>simp) hw (by unfold me;cases e.kind==1<;>cases e.kind==3<;>simp)
 rw[rA];obtain⟨p,k,m,t⟩:=e;have hn:m=n:=hn;subst hn;rcases va h with hk|hk|hk
 ·have hk:k=1:=hk;subst hk;have aq:t=[]:=Q4 h rfl;subst aq;show jS [hX,Lib.itoa (n:Int),p] r=_;unfold jS;have e1:(hX==hU)=false:=by decide
  have e2:(hX==hX)=true:=by decide
  simp only[e1,e2,g1,g2,cond_true,cond_false];rfl
 ·have hk:k=2:=hk;subst hk;have hb:t.length<=80:=by
   have:=PP h rfl;unfold oh at this;simp only[Bool.and_eq_true,decide_eq_true_eq] at this;exact this.2
  obtain⟨aE,aF⟩:=GK (n:=t.length) (m:=80) (by omega) (by omega)
  show jS [im,Lib.itoa (n:Int),p,Lib.itoa (t.length:Int)] (t++10::r)=_;unfold jS;have e1:(im==hU)=false:=by decide
  have e2:(im==hX)=false:=by decide
  have br:(im==im)=true:=by decide
  simp only[e1,e2,br,g1,g2,cond_true,cond_false];unfold CH;have d1:(t++10::r).drop t.length=10::r:=by simp
  have d2:(t++10::r).take t.length=t:=by simp
  simp only[aE,aF,cond_true,Int.toNat_natCast,d1,d2,g2]
 ·have hk:k=3:=hk;subst hk;obtain⟨_,hm⟩:=Fo h rfl;have hm:(n:Int)=0:=hm;show jS [hU,p,t] r=_;unfold jS;have e1:(hU==hU)=true:=by decide
  simp only[e1,cond_true];rw[hm];rfl
theorem FO{s r:B}{e:aw}(h:nj s=some (e,r)):e.path.length<=s.length/\e.text.length<=s.length/\r.length<s.length:=by
 unfold nj at h;cases az:dw 10 s with
 |none=>rw[az] at h;cases h
 |some q=>
  obtain⟨bW,rest⟩:=q;rw[az] at h;have hl:=(jk az).1;have hl:s.length=bW.length+1+rest.length:=by rw[hl];simp;omega
  have hm:=qo 32 4 bW;have h:jS (splitN 32 4 bW) rest=some (e,r):=h;generalize splitN 32 4 bW=ws at h hm;match ws,h,hm with
  |[],h,hm=>cases h
  |[_],h,hm=>cases h
  |[_,_],h,hm=>cases h
  |U::aZ::w2::more,h,hm=>
   have m1:=hm aZ (by simp)
   have m2:=hm w2 (by simp)
   unfold jS at h;simp only at h;cases eT:U==hU<;>simp only[eT,cond_true,cond_false] at h
   ·cases e1:fl 7 aZ<;>simp only[e1,cond_true,cond_false] at h
    ·cases h
    ·cases e2:U==hX<;>simp only[e2,cond_true,cond_false] at h
     ·cases br:U==im<;>simp only[br,cond_true,cond_false] at h
      ·cases h
      ·split at h
       ·rename_i cd;unfold CH at h;cases da:fl 80 cd<;>simp only[da,cond_true,cond_false] at h
        ·cases h
        ·split at h
         ·rename_i eH Z;simp only[Option.some.injEq,Prod.mk.injEq] at h;obtain⟨rfl,rfl⟩:=h;have ME:=congrArg List.length Z;simp only[List.length_drop,List.length_cons] at ME;refine⟨by show w2.length<=_;omega,by show(rest.take _).length<=_;simp;omega,by omega⟩
         ·cases h
       ·cases h
     ·cases br:more==[]<;>simp only[br,cond_true,cond_false] at h
      ·cases h
      ·simp only[Option.some.injEq,Prod.mk.injEq] at h;obtain⟨rfl,rfl⟩:=h;exact⟨by show w2.length<=_;omega,by show 0<=_;omega,by omega⟩
   ·cases br:more==[]<;>simp only[br,cond_true,cond_false] at h
    ·cases h
    ·simp only[Option.some.injEq,Prod.mk.injEq] at h;obtain⟨rfl,rfl⟩:=h;exact⟨by show aZ.length<=_;omega,by show w2.length<=_;omega,by omega⟩
def pS(k:Nat)(t:List aw):Prop:=∀e,e∈t->e.path.length<=k/\e.text.length<=k
theorem aoj:∀(m:Nat) (s:B) (t:List aw),s.length<=m->m<=1000000->t.length<=16->pS 1000000 t->
  (∃ns:List aw,vM (((),(s,())),(t,()))=some (.inr (((),()),(ns,())))/\ns.length<=16/\pS 1000000 ns)\/vM (((),(s,())),(t,()))=some (.inl (((),(false,())),(([]:List aw),()))):=by
 intro m;induction m with
 |zero=>
  intro s t hs _ aq ha;have:s=[]:=List.length_eq_zero_iff.1 (by omega)
  subst this;exact .inl ⟨t,cp rfl,aq,ha⟩
 |succ m ih=>
  intro s t hs hm aq ha;cases s with
  |nil=>exact .inl ⟨t,cp rfl,aq,ha⟩
  |cons b iz=>
   have hne:((b::iz)==([]:B))=false:=rfl;generalize eI:b::iz=s at hs hne;obtain⟨r,e,h1,h2⟩:=OO s (by omega)
   cases hr:nj s with
   |none=>
    rw[hr] at h1;refine .inr (cp ?_);simp only[qT,hne,Bool.not_false,cond_true,h1,Option.bind_some,Option.isSome_none,sD,Bool.not_true,cond_false]
   |some q=>
    have az:=h2 q hr;subst az;rw[hr] at h1;obtain⟨dP,fC,uP⟩:=FO hr;by_cases xV:t.length=16
    ·refine .inr (cp ?_);have d:(((t.length:Nat):Int)==16)=true:=by rw[beq_iff_eq];omega
     simp only[qT,hne,Bool.not_false,cond_true,h1,Option.bind_some,Option.isSome_some,sD,Bool.not_true,cond_false,d]
    ·have d:(((t.length:Nat):Int)==16)=false:=by rw[beq_eq_false_iff_ne];omega
     have fr:b9 48 t ([(aw.mk e.path e.kind e.mode e.text)]:List aw)=some (t++[e]):=di (by decide) (by unfold au;simp;omega)
     have st:qT (((),(s,())),(t,()))=some (.inl (((),(r,())),(t++[e],()))):=by
      simp only[qT,hne,Bool.not_false,cond_true,h1,Option.bind_some,Option.isSome_some,sD,Bool.not_true,cond_false,d,fr]
     have atO:pS 1000000 (t++[e]):=fun x hx=>by
      rcases List.mem_append.1 hx with hx|hx
      ·exact ha x hx
      ·rw[List.mem_singleton.1 hx];exact⟨by omega,by omega⟩
     rcases ih r (t++[e]) (by omega) (by omega) (by simp;omega) atO with⟨ns,g1,g2,g3⟩|g1
     ·exact .inl ⟨ns,(dM st).trans g1,g2,g3⟩
     ·exact .inr ((dM st).trans g1)
theorem aoi:∀(ch t:List aw),(∀e,e∈ch->eN e=true)->t.length+ch.length<=16->(dd ch).length<=1000000->
  vM (((),(dd ch,())),(t,()))=some (.inr (((),()),(t++ch,()))):=by
 intro ch;induction ch with
 |nil=>intro t _ _ _;rw[List.append_nil];exact cp rfl
 |cons e ch ih=>
  intro t h aq hl;have he:=h e List.mem_cons_self;have hr:=QJ he (dd ch);have hE:dd (e::ch)=dY e++dd ch:=by unfold dd;rw[List.flatMap_cons]
  rw[hE] at hl ⊢;have hlen:=(FO hr).2.2;have hne:((dY e++dd ch)==([]:B))=false:=by
   cases hx:dY e++dd ch with
   |nil=>rw[hx] at hlen;simp at hlen
   |cons b r=>rfl
  obtain⟨r,cI,h1,h2⟩:=OO (dY e++dd ch) hl;have az:=h2 _ hr;simp only[Prod.mk.injEq] at az;obtain⟨rfl,rfl⟩:=az;rw[hr] at h1;have d:(((t.length:Nat):Int)==16)=false:=by rw[beq_eq_false_iff_ne];simp at aq;omega
  have fr:b9 48 t ([(aw.mk e.path e.kind e.mode e.text)]:List aw)=some (t++[e]):=di (by decide) (by unfold au;simp;simp at aq;omega)
  have st:qT (((),(dY e++dd ch,())),(t,()))=some (.inl (((),(dd ch,())),(t++[e],()))):=by
   simp only[qT,hne,Bool.not_false,cond_true,h1,Option.bind_some,Option.isSome_some,sD,Bool.not_true,cond_false,d,fr]
  have:=ih (t++[e]) (fun x hx=>h x (List.mem_cons_of_mem _ hx)) (by simp at aq ⊢;omega) (by omega)
  rw[List.append_assoc] at this;exact(dM st).trans this
theorem aep(s:B)(hs:s.length<=1000000):∃(ok:Bool) (t:List aw),f118 ((s,()),())=some (((),(ok,())),(t,()))/\t.length<=16/\pS 1000000 t:=by
 rcases aoj s.length s [] (Nat.le_refl _) hs (by decide) (fun x hx=>by cases hx) with⟨ns,g1,g2,g3⟩|g1
 ·have aq:=qt ((ns,()),()) ⟨by show ns.length<=2097152;omega,fun e he=>by have:=g3 e he;exact⟨by show e.path.length<=2097152;omega,by show e.text.length<=2097152;omega⟩⟩
  have aq:f105 ((ns,()),())=some ((dC ns,()),()):=aq;simp only[f118,g1,Option.bind_some,aq];cases dC ns with
  |false=>exact⟨false,[],rfl,by simp,fun x hx=>by cases hx⟩
  |true=>exact⟨true,ns,rfl,g2,g3⟩
 ·simp only[f118,g1,Option.bind_some];exact⟨false,[],rfl,by simp,fun x hx=>by cases hx⟩
theorem aeo(t:List aw)(h:dC t=true)(hs:(dd t).length<=1000000)(hb:is t):
  f118 ((dd t,()),())=some (((),(true,())),(t,())):=by
 have g1:=aoi t [] (u7 h) (by have:=jJ h;simpa using this) hs
 have aq:=qt ((t,()),()) hb;have aq:f105 ((t,()),())=some ((dC t,()),()):=aq;simp only[f118,g1,List.nil_append,Option.bind_some,aq,h,Bool.not_true,cond_false]
noncomputable abbrev avf:a_:=[(114,xc),(168,_D),(169,_C)]
theorem LU:aR O (aX ad avf):=aV ⟨C5,z168,ase,⟨⟩⟩
abbrev QF:Shape:=⟨[ba 5 3000320,ak 7,ap 10,ay 11 11 0,ap 12],[a' 3000320 .need 5 0,ax 11 [ah,a6,ah]],46⟩
abbrev Qm:List aP:=[(.norm,⟨[ba 5 3000320,ak 7,ay 11 11 0,ap 40],[a' 3000320 .need 5 0,ax 11 [ah,a6,ah]],46⟩)]
noncomputable def vl(y:QF.J):Option (aC Qm):=
 bif(!(!y.1.2.2.1)) then
 some (((),y.1.2.1,(),(!y.1.2.2.2.2.1),()),y.2.1,(y.2.2.1.1,y.2.2.1.2.1,y.2.2.1.2.2.1,()),())
else
 some (((),y.1.2.1,(),true,()),y.2.1,(y.2.2.1.1,y.2.2.1.2.1,y.2.2.1.2.2.1,()),())
theorem aiF:aT O (an (c4 (an (codeOf Tryz.f117) 1 14)) 28 7292) (aU QF Qm vl):=ce LU (by kernel_rfl) ae fun y=>by kernel_rfl
abbrev AR:Shape:=⟨[ak 0,ba 5 3000320],[a' 3000320 .need 5 0],46⟩
abbrev H5:List aP:=[(.ret,⟨[ba 2 3000128,ak 3,ap 4],[a' 3000128 .need 2 0],46⟩)]
noncomputable def mb(y:AR.J):bG AR H5:=
(f114 ((y.1.1,([10]:B),()),())).bind fun a=>
 bif(!a.1.2.2.1) then
 some (.inr (((),([]:B),false,()),([]:List bx),()))
else
 bif(a.1.1==([]:B)) then
 some (.inr (((),a.1.2.1,true,()),y.2.1,()))
else
(f168 ((a.1.1,([110,101,101,100,32]:B),()),())).bind fun b=>
(f169 ((b.1.1,()),())).bind fun c=>
(vl (((),a.1.2.1,b.1.2.1,(),c.1.2.1,()),y.2.1,(c.2.1.1,c.2.1.2.1,c.2.1.2.2.1,()),())).bind fun d=>
 bif d.1.2.2.2.1 then
 some (.inr (((),([]:B),false,()),([]:List bx),()))
else
(b9 40 d.2.1 ([(bx.mk d.2.2.1.1 d.2.2.1.2.1 d.2.2.1.2.2.1)]:List bx)).bind fun e=>
 some (.inl ((d.1.2.1,(),()),e,()))
noncomputable def A1:AR.J->Option (aC H5):=bu mb
theorem amV:aT O (an (codeOf Tryz.f117) 1 14) (aU AR H5 A1):=bI LU (by kernel_rfl) (a8 aiF ae) fun y=>by kernel_rfl
abbrev i117:Shape:=⟨[ak 0],[],46⟩
abbrev Y2:Shape:=⟨[ba 2 3000128,ak 3,ap 4],[a' 3000128 .need 2 0],46⟩
noncomputable def f117(a:i117.J):Option Y2.J:=
(A1 ((a.1.1,(),()),([]:List bx),())).bind fun b=>
 some (((),b.1.2.1,b.1.2.2.1,()),b.2.1,())
noncomputable def _6:aD:=aH ad Tryz.f117 i117 Y2 [] f117
theorem z117:aB O 117 _6:=aK LU Tryz.func117 (by kernel_rfl) (a8 amV ae) (fun y=>by kernel_rfl) fun a=>by kernel_rfl
def ub(k:Nat)(t:List bx):Prop:=∀e,e∈t->e.name.length<=k/\e.aW.length<=k
theorem aid{a t:B}{n:bx}(h:pw a t=some n):n.name=a/\n.aW.length<=t.length:=by
 unfold pw at h;split at h
 ·cases h;exact⟨rfl,by simp;omega⟩
 ·cases h;exact⟨rfl,by simp⟩
 ·cases h;exact⟨rfl,by simp⟩
 ·cases h
theorem aif{s:B}{n:bx}(h:kM s=some n):n.name.length<=s.length/\n.aW.length<=s.length:=by
 unfold kM at h;split at h
 ·rename_i k _;obtain⟨h1,h2⟩:=aid h;rw[h1];simp at h2 ⊢;omega
 ·cases h;exact⟨Nat.le_refl _,by simp⟩
theorem ala(s:B):((eJ s).getD iw).name.length<=s.length/\((eJ s).getD iw).aW.length<=s.length:=by
 have no:eJ s=none->((eJ s).getD iw).name.length<=s.length/\((eJ s).getD iw).aW.length<=s.length:=fun h=>by
  rw[h];exact⟨Nat.zero_le _,Nat.zero_le _⟩
 cases h:kM s with
 |none=>exact no (by unfold eJ;rw[h])
 |some n=>
  have hG:eJ s=bif dD n then some n else none:=by unfold eJ;rw[h]
  cases hk:dD n with
  |true=>rw[hG,hk];exact aif h
  |false=>exact no (by rw[hG,hk];rfl)
theorem Q6{p s r:B}(h:dW p s=some r):r.length<=s.length:=by
 unfold dW at h;cases hc:decide (p.length<=s.length)&&s.take p.length==p with
 |false=>rw[hc] at h;cases h
 |true=>rw[hc] at h;cases h;simp
theorem alb(p s:B):((dW p s).getD s).length<=s.length:=by
 cases h:dW p s with
 |none=>exact Nat.le_refl _
 |some r=>exact Q6 h
theorem aoo:∀(m:Nat) (s:B) (t:List bx),s.length<=m->t.length+m<=1000000->ub 1000000 t->
  ∃(r:B) (ok:Bool) (ns:List bx),A1 ((s,((),())),(t,()))=some (((),(r,(ok,()))),(ns,()))/\r.length<=s.length/\ns.length<=1000000/\ub 1000000 ns:=by
 intro m;induction m with
 |zero=>
  intro s t hs aq ha;have:s=[]:=List.length_eq_zero_iff.1 (by omega)
  subst this;have hc:=nh 10 [] (by unfold au;simp)
  have hc:f114 ((([]:B),(([10]:B),())),())=some ((([]:B),(([]:B),(false,()))),()):=hc;refine⟨[],false,[],cp ?_,by simp,by simp,fun x hx=>by cases hx⟩
  simp only[mb,hc,Option.bind_some,Bool.not_false,cond_true]
 |succ m ih=>
  intro s t hs aq ha;have hc:=nh 10 s (by unfold au;omega)
  have hc:f114 ((s,(([10]:B),())),())=_:=hc;cases az:dw 10 s with
  |none=>
   rw[az] at hc;refine⟨[],false,[],cp ?_,by simp,by simp,fun x hx=>by cases hx⟩
   simp only[mb,hc,Option.bind_some,Option.isSome_none,Bool.not_false,cond_true]
  |some q=>
   obtain⟨bW,rest⟩:=q;have hl:=(jk az).1;have hl:s.length=bW.length+1+rest.length:=by rw[hl];simp;omega
   have dX:hd 10 s=bW:=by unfold hd;rw[az]
   have hB:g' 10 s=rest:=by unfold g';rw[az]
   rw[az,dX,hB] at hc;cases he:bW==([]:B) with
   |true=>
    refine⟨rest,true,t,cp ?_,by omega,by omega,ha⟩
    simp only[mb,hc,Option.bind_some,Option.isSome_some,Bool.not_true,cond_false,he,cond_true]
   |false=>
    have hp:=OU bW [110,101,101,100,32];have hp:f168 ((bW,(([110,101,101,100,32]:B),())),())=_:=hp;have bl:=alb [110,101,101,100,32] bW;generalize(dW [110,101,101,100,32] bW).getD bW=w at hp bl;have hn:=P8 w (by omega)
    have D6:=ala w;cases ca:(dW [110,101,101,100,32] bW).isSome&&(eJ w).isSome with
    |false=>
     refine⟨[],false,[],cp ?_,by simp,by simp,fun x hx=>by cases hx⟩
     simp only[mb,hc,Option.bind_some,Option.isSome_some,Bool.not_true,cond_false,he,hp,hn,vl];cases ic:(dW [110,101,101,100,32] bW).isSome with
     |false=>simp only[Bool.not_false,Bool.not_true,cond_false,cond_true,Option.bind_some]
     |true=>
      rw[ic] at ca;have ca:(eJ w).isSome=false:=ca;simp only[ca,Bool.not_false,Bool.not_true,cond_false,cond_true,Option.bind_some]
    |true=>
     rw[Bool.and_eq_true] at ca;have fr:b9 40 t ([(bx.mk ((eJ w).getD iw).name ((eJ w).getD iw).kind ((eJ w).getD iw).aW)]:List bx)=some (t++[(eJ w).getD iw]):=di (by decide) (by unfold au;simp;omega)
     have st:mb ((s,((),())),(t,()))=some (.inl ((rest,((),())),(t++[(eJ w).getD iw],()))):=by
      simp only[mb,hc,Option.bind_some,Option.isSome_some,Bool.not_true,cond_false,he,hp,hn,vl,ca.1,ca.2,Bool.not_false,cond_true,fr]
     obtain⟨r,ok,ns,g1,g2,g3,g4⟩:=ih rest (t++[(eJ w).getD iw]) (by omega) (by simp;omega) (fun x hx=>by
      rcases List.mem_append.1 hx with hx|hx
      ·exact ha x hx
      ·rw[List.mem_singleton.1 hx];exact⟨by omega,by omega⟩)
     exact⟨r,ok,ns,(dM st).trans g1,by omega,g3,g4⟩
theorem aon:∀(ns t:List bx) (r:B),(∀n,n∈ns->dD n=true)->t.length+ns.length<=1000->(ns.flatMap cz++10::r).length<=1000000->
  A1 ((ns.flatMap cz++10::r,((),())),(t,()))=some (((),(r,(true,()))),(t++ns,())):=by
 intro ns;induction ns with
 |nil=>
  intro t r _ _ hs;have hc:=nh 10 (10::r) (by unfold au;simp at hs ⊢;omega)
  have dX:hd 10 (10::r)=[]:=by unfold hd;rw[Jx]
  have hB:g' 10 (10::r)=r:=by unfold g';rw[Jx]
  rw[dX,hB,Jx] at hc;have hc:f114 ((10::r,(([10]:B),())),())=some ((([]:B),(r,(true,()))),()):=hc;have he:(([]:B)==([]:B))=true:=rfl;rw[List.append_nil];refine cp ?_
  show mb ((10::r,((),())),(t,()))=_;simp only[mb,hc,Option.bind_some,Bool.not_true,cond_false,he,cond_true]
 |cons n ns ih=>
  intro t r h aq hs;have hk:=h n List.mem_cons_self;have fR:=aiM (n:=n) (ns:=ns) (r:=10::r) hk;generalize eI:(n::ns).flatMap cz++10::r=s at hs fR;have hc:=nh 10 s (by unfold au;omega)
  have hl:=(jk fR).1;have hl:s.length=(fO++32::cK n).length+1+(ns.flatMap cz++10::r).length:=by rw[hl];simp;omega
  have dX:hd 10 s=fO++32::cK n:=by unfold hd;rw[fR]
  have hB:g' 10 s=ns.flatMap cz++10::r:=by unfold g';rw[fR]
  rw[dX,hB,fR] at hc;have hc:f114 ((s,(([10]:B),())),())=some ((fO++32::cK n,(ns.flatMap cz++10::r,(true,()))),()):=hc;have he:((fO++32::cK n)==([]:B))=false:=rfl;have Z:dW [110,101,101,100,32] (fO++32::cK n)=some (cK n):=vn [110,101,101,100,32] (cK n);have hp:=OU (fO++32::cK n) [110,101,101,100,32];rw[Z] at hp;have hp:f168 ((fO++32::cK n,(([110,101,101,100,32]:B),())),())=some ((cK n,(true,())),()):=hp;have hn:=P8 (cK n) (by simp[fO] at hl;omega)
  rw[ak9 hk] at hn;have hn:f169 ((cK n,()),())=some (((),(true,())),((n.name,(n.kind,(n.aW,()))),())):=hn;have fr:b9 40 t ([(bx.mk n.name n.kind n.aW)]:List bx)=some (t++[n]):=di (by decide) (by unfold au;simp;simp at aq;omega)
  have st:mb ((s,((),())),(t,()))=some (.inl ((ns.flatMap cz++10::r,((),())),(t++[n],()))):=by
   simp only[mb,hc,Option.bind_some,Bool.not_true,cond_false,he,hp,hn,vl,Bool.not_false,cond_true,fr]
  have:=ih (t++[n]) r (fun x hx=>h x (List.mem_cons_of_mem _ hx)) (by simp at aq ⊢;omega) (by omega)
  rw[List.append_assoc] at this;exact(dM st).trans this
theorem aef(s:B)(hs:s.length<=1000000):∃(r:B) (ok:Bool) (ns:List bx),f117 ((s,()),())=some (((),(r,(ok,()))),(ns,()))/\r.length<=s.length/\ns.length<=1000000/\ub 1000000 ns:=by
 obtain⟨r,ok,ns,g1,g2⟩:=aoo s.length s [] (Nat.le_refl _) (by simpa using hs) (fun x hx=>by cases hx)
 exact⟨r,ok,ns,by simp only[f117,g1,Option.bind_some],g2⟩
theorem aee(ns:List bx)(r:B)(h:∀n,n∈ns->dD n=true)(hl:ns.length<=1000)(hs:(ns.flatMap cz++10::r).length<=1000000):
  f117 ((ns.flatMap cz++10::r,()),())=some (((),(r,(true,()))),(ns,())):=by
 have g1:=aon ns [] r h (by simpa using hl) hs
 simp only[f117,g1,Option.bind_some,List.nil_append]
noncomputable abbrev azr:a_:=[(36,Nj),(55,Ek),(114,xc),(116,_7),(117,_6),(118,_5)]
theorem adf:aR O (aX ad azr):=aV ⟨aaL,LX,C5,z116,z117,asw,⟨⟩⟩
abbrev Qr:Shape:=⟨[ak 0,ay 2 2 0,ay 11 11 0,ap 14],[bp 5000130 .need 2 2,bp 5000131 .entry 2 3,ax 2 [ah,ah,.own 5000130,.own 5000131],bp 5000706 .need 11 2,bp 5000707 .entry 11 3,ax 11 [ah,ah,.own 5000706,.own 5000707]],76⟩
abbrev P_:List aP:=[(.norm,⟨[ay 2 2 0,ay 11 11 0,ap 73],[bp 5000130 .need 2 2,bp 5000131 .entry 2 3,ax 2 [ah,ah,.own 5000130,.own 5000131],bp 5000706 .need 11 2,bp 5000707 .entry 11 3,ax 11 [ah,ah,.own 5000706,.own 5000707]],76⟩)]
noncomputable def qv(y:Qr.J):Option (aC P_):=
 bif(!(!y.1.2.2.2.1)) then
(f55 (((y.2.2.2.2.2.2.1.1,y.2.2.2.2.2.2.1.2.1,y.2.2.2.2.1,y.2.2.2.2.2.1,()),()),())).bind fun a=>
 bif(!(!a.1.1)) then
(f36 (((y.2.2.2.2.2.2.1.1,y.2.2.2.2.2.2.1.2.1,y.2.2.2.2.1,y.2.2.2.2.2.1,()),()),())).bind fun b=>
 some (((),(),(!(b.1.1==y.1.1)),()),y.2.1,y.2.2.1,(y.2.2.2.1.1,y.2.2.2.1.2.1,(),(),()),y.2.2.2.2.1,y.2.2.2.2.2.1,(y.2.2.2.2.2.2.1.1,y.2.2.2.2.2.2.1.2.1,(),(),()),())
else
 some (((),(),true,()),y.2.1,y.2.2.1,(y.2.2.2.1.1,y.2.2.2.1.2.1,(),(),()),y.2.2.2.2.1,y.2.2.2.2.2.1,(y.2.2.2.2.2.2.1.1,y.2.2.2.2.2.2.1.2.1,(),(),()),())
else
 some (((),(),true,()),y.2.1,y.2.2.1,(y.2.2.2.1.1,y.2.2.2.1.2.1,(),(),()),y.2.2.2.2.1,y.2.2.2.2.2.1,(y.2.2.2.2.2.2.1.1,y.2.2.2.2.2.2.1.2.1,(),(),()),())
theorem aij:aT O (an (codeOf Tryz.f67) 1 16380) (aU Qr P_ qv):=ce adf (by kernel_rfl) ae fun y=>by kernel_rfl
abbrev i67:Shape:=⟨[ak 0],[],76⟩
abbrev xr:Shape:=⟨[ay 2 2 0,ap 3],[bp 5000130 .need 2 2,bp 5000131 .entry 2 3,ax 2 [ah,ah,.own 5000130,.own 5000131]],76⟩
noncomputable def f67(a:i67.J):Option xr.J:=
 bif(decide ((a.1.1.length:Int)>(4000:Int))) then
 some (((),false,()),([]:List bx),([]:List aw),(([]:B),([]:B),(),(),()),())
else
(f114 ((a.1.1,([10]:B),()),())).bind fun b=>
(f114 ((b.1.2.1,([10]:B),()),())).bind fun c=>
(f116 ((c.1.1,([32]:B),()),())).bind fun d=>
 bif((d.1.1.length:Int) !=(3:Int)) then
 some (((),false,()),([]:List bx),([]:List aw),(([]:B),([]:B),(),(),()),())
else
(aO d.1.1 (1:Int)).bind fun e=>
(aO d.1.1 (2:Int)).bind fun f=>
(f117 ((c.1.2.1,()),())).bind fun g=>
 bif(!g.1.2.2.1) then
 some (((),false,()),([]:List bx),([]:List aw),(([]:B),([]:B),(),(),()),())
else
(f118 ((g.1.2.1,()),())).bind fun h=>
(qv ((a.1.1,(),(),h.1.2.1,()),([]:List bx),([]:List aw),(([]:B),([]:B),(),(),()),g.2.1,h.2.1,(e,f,(),(),()),())).bind fun i=>
 bif i.1.2.2.1 then
 some (((),false,()),([]:List bx),([]:List aw),(([]:B),([]:B),(),(),()),())
else
 some (((),true,()),i.2.2.2.2.1,i.2.2.2.2.2.1,(i.2.2.2.2.2.2.1.1,i.2.2.2.2.2.2.1.2.1,(),(),()),())
noncomputable def acQ:aD:=aH ad Tryz.f67 i67 xr [] f67
theorem awd:aB O 67 acQ:=aK adf Tryz.func67 (by kernel_rfl) (a8 aij ae) (fun y=>by kernel_rfl) fun a=>by kernel_rfl
theorem EW{aJ:Type}(f:aJ->B):∀{xs:List aJ} {x:aJ},x∈xs->(f x).length<=(xs.flatMap f).length:=by
 intro xs;induction xs with
 |nil=>intro x h;cases h
 |cons y bj ih=>
  intro x h;rw[List.flatMap_cons,List.length_append];rcases List.mem_cons.1 h with rfl|h
  ·omega
  ·have:=ih h;omega
theorem aiY{e:aw}(h:eN e=true):e.path.length<=(dY e).length/\e.text.length<=(dY e).length:=by
 have hc:=FO (QJ h []);rw[List.append_nil] at hc;exact⟨hc.1,hc.2.1⟩
theorem yJ(p:aG):(dv p).length<=(bw p).length/\p.name.length+p.aW.length+(p.bi.flatMap cz++10::dd p.bB).length+10<=(dv p).length+10/\(dd p.bB).length<=(dv p).length/\(p.bi.flatMap cz).length<=(dv p).length:=by
 have h1:(bw p).length=(eO p).length+1+(dv p).length:=by rw[vG];simp;omega
 have h2:(dv p).length=(d' p).length+1+(iR p).length:=by rw[vx];simp;omega
 have h3:(d' p).length=4+1+(p.name.length+1+p.aW.length):=by unfold d';simp[lD,iF];omega
 have aA:(iR p).length=(p.bi.flatMap cz).length+1+(dd p.bB).length:=by unfold iR;rw[List.length_append,List.length_cons];omega
 have bl:(p.bi.flatMap cz++10::dd p.bB).length=(iR p).length:=rfl;omega
theorem Jt{p:aG}(hk:cj p=true)(hl:(bw p).length<=4000):jD p:=by
 obtain⟨h1,h2,h3,aA,_,ca⟩:=mW hk;obtain⟨q1,q2,dF,mR⟩:=yJ p;refine⟨by show p.name.length<=2097152;omega,by show p.aW.length<=2097152;omega,⟨by show p.bi.length<=2097152;omega,fun n hn=>?_⟩,⟨by show p.bB.length<=2097152;have:=jJ ca;omega,fun e he=>?_⟩⟩
 ·have h:=EW cz hn;have iM:(cz n).length=(cK n).length+6:=by unfold cz;simp
  have hp:n.name.length+n.aW.length<=(cK n).length:=by unfold cK;simp
  exact⟨by show n.name.length<=2097152;omega,by show n.aW.length<=2097152;omega⟩
 ·have h:=EW dY he;have h:(dY e).length<=(dd p.bB).length:=h;have:=aiY (u7 ca e he);exact⟨by show e.path.length<=2097152;omega,by show e.text.length<=2097152;omega⟩
abbrev sj(p:aG):xr.J:=(((),(true,())),(p.bi,(p.bB,((p.name,(p.aW,((),((),())))),()))))
abbrev N5:xr.J:=(((),(false,())),(([]:List bx),(([]:List aw),((([]:B),(([]:B),((),((),())))),()))))
theorem apx{p q:aG}(h:sj p=sj q):p=q:=by
 obtain⟨a,b,c,d⟩:=p;obtain⟨cS,bH,fu,adQ⟩:=q;simp only[sj,Prod.mk.injEq] at h;obtain⟨_,rfl,rfl,⟨rfl,rfl,_⟩,_⟩:=h;rfl
theorem EN{p:aG}(hk:cj p=true)(hl:(bw p).length<=4000):f67 ((bw p,()),())=some (sj p):=by
 have hb:=Jt hk hl;obtain⟨h1,h2,h3,aA,_,ca⟩:=mW hk;obtain⟨q1,q2,dF,mR⟩:=yJ p;have d:decide (((bw p).length:Int)>4000)=false:=decide_eq_false (by omega)
 have c1:=nh 10 (bw p) (by unfold au;omega)
 have a1:g' 10 (bw p)=dv p:=by unfold g';rw[akJ]
 rw[a1] at c1;have c1:f114 ((bw p,(([10]:B),())),())=_:=c1;have c2:=nh 10 (dv p) (by unfold au;omega)
 have a2:g' 10 (dv p)=iR p:=by unfold g';rw[Ra hk]
 have a3:hd 10 (dv p)=d' p:=by unfold hd;rw[Ra hk]
 rw[a2,a3] at c2;have c2:f114 ((dv p,(([10]:B),())),())=_:=c2;have bL:(d' p).length<=(dv p).length:=by rw[vx];simp
 have c3:=P7 (d' p) (by omega)
 rw[E5 hk] at c3;have iO:(((([iF,p.name,p.aW]:List B).length:Nat):Int) !=3)=false:=rfl;have eh:aO [iF,p.name,p.aW] (1:Int)=some p.name:=rfl;have fT:aO [iF,p.name,p.aW] (2:Int)=some p.aW:=rfl;have df:=aee p.bi (dd p.bB) h3 (by omega) (by omega)
 have df:f117 ((iR p,()),())=_:=df;have gP:=aeo p.bB ca (by omega) hb.2.2.2
 have c6:=yR (((p.name,(p.aW,(p.bi,(p.bB,())))),()),()) hb;have c6:f55 (((p.name,(p.aW,(p.bi,(p.bB,())))),()),())=some ((cj p,()),()):=c6;have qi:=E9 p hb;rw[hk] at c6 qi;simp only[f67,d,cond_false,c1,c2,c3,iO,eh,fT,df,gP,Option.bind_some,Bool.not_true,Bool.not_false,qv,cond_true,c6,qi,beq_self_eq_true]
theorem aem(s:B)(hs:au s.length):f67 ((s,()),())=some N5\/∃p:aG,f67 ((s,()),())=some (sj p)/\cj p=true/\bw p=s/\s.length<=4000:=by
 by_cases hl:s.length<=4000
 ·have d:decide ((s.length:Int)>4000)=false:=decide_eq_false (by omega)
  have aAM:∀t:B,(hd 10 t).length<=t.length:=fun t=>by
   unfold hd;cases h:dw 10 t with
   |none=>exact Nat.le_refl _
   |some q=>obtain⟨x,y⟩:=q;have:=(jk h).1;show x.length<=_;rw[this];simp
  have adG:∀t:B,(g' 10 t).length<=t.length:=fun t=>by
   unfold g';cases h:dw 10 t with
   |none=>show 0<=_;omega
   |some q=>obtain⟨x,y⟩:=q;have:=(jk h).1;show y.length<=_;rw[this];simp;omega
  have c1:=nh 10 s hs;have c1:f114 ((s,(([10]:B),())),())=_:=c1;have dP:=adG s;generalize g' 10 s=b at c1 dP;have c2:=nh 10 b (by unfold au;omega)
  have c2:f114 ((b,(([10]:B),())),())=_:=c2;have fC:=adG b;have uP:=aAM b;generalize g' 10 b=r at c2 fC;generalize hd 10 b=Z at c2 uP;have c3:=P7 Z (by omega)
  have m3:∀w,w∈bF 32 Z->w.length<=Z.length:=fun w hw=>by
   rw[<-yB 32 Z.length Z (Nat.le_refl _)] at hw;exact qo 32 _ Z w hw
  generalize bF 32 Z=ws at c3 m3;cases iO:(((ws.length:Nat):Int) !=3) with
  |true=>
   refine .inl ?_
   simp only[f67,d,cond_false,c1,c2,c3,iO,cond_true,Option.bind_some]
  |false=>
   obtain⟨U,bN,vs,rfl⟩:∃U bN vs,ws=[U,bN,vs]:=by
    have:ws.length=3:=by simp at iO;omega
    match ws,this with
    |[a,b,c],_=>exact⟨a,b,c,rfl⟩
   have eh:aO [U,bN,vs] (1:Int)=some bN:=rfl;have fT:aO [U,bN,vs] (2:Int)=some vs:=rfl;have aE:=m3 bN (by simp)
   have aF:=m3 vs (by simp)
   obtain⟨eH,ok,ns,df,cL,fV,iB⟩:=aef r (by omega)
   obtain⟨L9,t,gP,yd,oY⟩:=aep eH (by omega)
   cases ok with
   |false=>
    refine .inl ?_
    simp only[f67,d,cond_false,c1,c2,c3,iO,eh,fT,df,cond_true,Option.bind_some,Bool.not_false]
   |true=>
    cases L9 with
    |false=>
     refine .inl ?_
     simp only[f67,d,cond_false,c1,c2,c3,iO,eh,fT,df,gP,cond_true,Option.bind_some,Bool.not_false,Bool.not_true,qv]
    |true=>
     have hb:jD ⟨bN,vs,ns,t⟩:=⟨by show bN.length<=2097152;omega,by show vs.length<=2097152;omega,⟨by show ns.length<=2097152;omega,fun n hn=>by have:=iB n hn;exact⟨by show n.name.length<=2097152;omega,by show n.aW.length<=2097152;omega⟩⟩,⟨by show t.length<=2097152;omega,fun e he=>by have:=oY e he;exact⟨by show e.path.length<=2097152;omega,by show e.text.length<=2097152;omega⟩⟩⟩
     have c6:=yR (((bN,(vs,(ns,(t,())))),()),()) hb;have c6:f55 (((bN,(vs,(ns,(t,())))),()),())=some ((cj ⟨bN,vs,ns,t⟩,()),()):=c6;have qi:=E9 ⟨bN,vs,ns,t⟩ hb;have qi:f36 (((bN,(vs,(ns,(t,())))),()),())=_:=qi;cases hk:cj ⟨bN,vs,ns,t⟩ with
     |false=>
      rw[hk] at c6;refine .inl ?_
      simp only[f67,d,cond_false,c1,c2,c3,iO,eh,fT,df,gP,cond_true,Option.bind_some,Bool.not_false,Bool.not_true,qv,c6]
     |true=>
      rw[hk] at c6 qi;cases he:bw ⟨bN,vs,ns,t⟩==s with
      |false=>
       refine .inl ?_
       simp only[f67,d,cond_false,c1,c2,c3,iO,eh,fT,df,gP,cond_true,Option.bind_some,Bool.not_false,Bool.not_true,qv,c6,qi,he]
      |true=>
       refine .inr ⟨⟨bN,vs,ns,t⟩,?_,hk,eq_of_beq he,hl⟩;simp only[f67,d,cond_false,c1,c2,c3,iO,eh,fT,df,gP,cond_true,Option.bind_some,Bool.not_false,Bool.not_true,qv,c6,qi,he]
 ·have d:decide ((s.length:Int)>4000)=true:=decide_eq_true (by omega)
  refine .inl ?_
  simp only[f67,d,cond_true]
def abT(s:B)(p:aG):Prop:=cj p=true/\bw p=s/\s.length<=4000
def aAX(D:Option aG):xr.J:=match D with|some p=>sj p|none=>N5
theorem agv(s:B)(hs:au s.length):∃D:Option aG,f67 ((s,()),())=some (aAX D)/\ly D (abT s):=by
 rcases aem s hs with h|⟨p,h,h1,h2,h3⟩
 ·refine⟨none,h,fun p=>⟨fun hp=>(by cases hp),fun⟨q1,q2,dF⟩=>?_⟩⟩
  subst q2;have:=EN q1 dF;rw[h] at this;simp only[Option.some.injEq,Prod.mk.injEq] at this;exact absurd this.1.2.1 (by decide)
 ·refine⟨some p,h,fun q=>⟨fun hp=>?_,fun⟨q1,q2,dF⟩=>?_⟩⟩
  ·cases hp;exact⟨h1,h2,h3⟩
  ·subst q2;have:=EN q1 dF;rw[h] at this;rw[apx (Option.some.inj this)]
noncomputable abbrev azs:a_:=[(114,xc),(115,Dt)]
theorem adg:aR O (aX ad azs):=aV ⟨C5,Kv,⟨⟩⟩
abbrev UB:Shape:=⟨[ak 2,ak 3,ap 4,ak 6,ap 7,ag 8,ap 9],[],35⟩
abbrev Uo:List aP:=[(.norm,⟨[ak 2,ak 3,ap 4,ak 6,ag 8,ap 28],[],35⟩)]
noncomputable def wg(y:UB.J):Option (aC Uo):=
 bif(!(!y.1.2.2.2.2.1)) then
 some ((y.1.1,y.1.2.1,y.1.2.2.1,y.1.2.2.2.1,y.1.2.2.2.2.2.1,(!y.1.2.2.2.2.2.2.1),()),())
else
 some ((y.1.1,y.1.2.1,y.1.2.2.1,y.1.2.2.2.1,y.1.2.2.2.2.2.1,true,()),())
theorem aoG:aT O (an (codeOf Tryz.f66) 1 60) (aU UB Uo wg):=ce adg (by kernel_rfl) ae fun y=>by kernel_rfl
abbrev i66:Shape:=⟨[ak 0],[],35⟩
abbrev abi:Shape:=⟨[ak 2,ak 3,ap 4],[],35⟩
noncomputable def f66(a:i66.J):Option abi.J:=
(f114 ((a.1.1,([10]:B),()),())).bind fun b=>
(f115 ((b.1.1,(b.1.2.1.length:Int),()),())).bind fun c=>
(wg ((([]:B),([]:B),false,b.1.2.1,b.1.2.2.1,c.1.1,c.1.2.1,()),())).bind fun d=>
 bif d.1.2.2.2.2.2.1 then
 some ((([]:B),([]:B),false,()),())
else
(bm d.1.2.2.2.1 (0:Int) d.1.2.2.2.2.1).bind fun e=>
(bm d.1.2.2.2.1 d.1.2.2.2.2.1 (d.1.2.2.2.1.length:Int)).bind fun f=>
 some ((e,f,true,()),())
noncomputable def Nh:aD:=aH ad Tryz.f66 i66 abi [] f66
theorem aaJ:aB O 66 Nh:=aK adg Tryz.func66 (by kernel_rfl) (a8 aoG ae) (fun y=>by kernel_rfl) fun a=>by kernel_rfl
theorem alK(t:B)(b:UInt8):de (t++[b])=ef (de t) b:=by unfold de;rw[List.foldl_append];rfl
theorem alI:∀{s:B},s.all cP=true->s≠[]->ik s=false->s.length≠1->1<=de s:=by
 intro s Z hn hl h1;have key:∀(s:B) (n:Int),s.all cP=true->1<=n->1<=s.foldl ef n:=by
  intro s;induction s with
  |nil=>intro n _ h;exact h
  |cons b s ih=>
   intro n Z hn;simp only[List.all_cons,Bool.and_eq_true] at Z;have hb:=iP Z.1;refine ih _ Z.2 ?_
   unfold ef;omega
 match s,Z,hn,hl,h1 with
 |[],_,hn,_,_=>exact absurd rfl hn
 |[b],_,_,_,h1=>exact absurd rfl h1
 |b::c::r,Z,_,hl,_=>
  have hl:((b.toNat:Int)==48)=false:=hl;have hb:=Z;rw[List.all_cons,Bool.and_eq_true] at hb;have eY:=iP hb.1;have hne:(b.toNat:Int)≠48:=by simpa using hl
  show 1<=(c::r).foldl ef (ef 0 b);exact key _ _ hb.2 (by unfold ef;omega)
theorem ahl:∀(k:Nat) (s:B),s.length=k->s.all cP=true->s≠[]->ik s=false->∃n:Nat,de s=(n:Int)/\Lib.decDigits n=s:=by
 intro k;induction k with
 |zero=>intro s h _ hn _;exact absurd (List.length_eq_zero_iff.1 h) hn
 |succ k ih=>
  intro s h Z hn hl;obtain⟨t,b,rfl⟩:∃t b,s=t++[b]:=⟨s.dropLast,s.getLast hn,(List.dropLast_concat_getLast hn).symm⟩;have hk:t.length=k:=by simpa using h
  rw[List.all_append,Bool.and_eq_true] at Z;have hb1:cP b=true:=by have:=Z.2;simpa using this
  have eY:=iP hb1;cases t with
  |nil=>
   refine⟨b.toNat-48,?_,?_⟩
   ·show ef 0 b=_;unfold ef;omega
   ·rw[Lib.decDigits,dif_pos (by omega)]
    show [_]=[b];congr 1
    apply UInt8.toNat_inj.1;rw[UInt8.toNat_ofNat'];omega
  |cons c r=>
   have hlt:ik (c::r)=false:=by
    cases r with
    |nil=>rfl
    |cons d r=>exact hl
   obtain⟨n,h1,h2⟩:=ih (c::r) hk Z.1 (by simp) hlt
   have hp:1<=n:=by
    cases r with
    |nil=>
     have p_:((c.toNat:Int)==48)=false:=hl;have p_:(c.toNat:Int)≠48:=by simpa using p_
     have hc:=iP (by have:=Z.1;simpa using this:cP c=true)
     have:ef 0 c=(n:Int):=h1;unfold ef at this;omega
    |cons d r=>
     have:=alI Z.1 (by simp) hlt (by simp)
     omega
   refine⟨n*10+(b.toNat-48),?_,?_⟩
   ·rw[alK,h1];unfold ef;omega
   ·rw[Lib.decDigits,dif_neg (by omega),show(n*10+(b.toNat-48))/10=n by omega,h2,show(n*10+(b.toNat-48))%10=b.toNat-48 by omega]
    congr 2
    apply UInt8.toNat_inj.1;rw[UInt8.toNat_ofNat'];omega
theorem QM{m:Int}{s:B}(h:fl m s=true):∃n:Nat,de s=(n:Int)/\s=Lib.itoa (n:Int)/\(n:Int)<=m:=by
 have h0:=h;unfold fl at h;simp only[Bool.and_eq_true,decide_eq_true_eq,Bool.not_eq_true'] at h;obtain⟨⟨⟨⟨h1,h2⟩,h3⟩,_⟩,bl⟩:=h;obtain⟨n,e1,e2⟩:=ahl s.length s rfl h1 (by simpa using h2) h3
 exact⟨n,e1,by rw[n6,e2],by omega⟩
def iS(s:B):Option (B×B):=match dw 10 s with
 |some (bW,r)=>bif fl (r.length:Int) bW then some (r.take (de bW).toNat,r.drop (de bW).toNat) else none
 |none=>none
theorem EY(s:B)(hs:au s.length):f66 ((s,()),())=some ((((iS s).getD ([],[])).1,(((iS s).getD ([],[])).2,((iS s).isSome,()))),()):=by
 have c1:=nh 10 s hs;have c1:f114 ((s,(([10]:B),())),())=_:=c1;cases az:dw 10 s with
 |none=>
  have hz:iS s=none:=by unfold iS;rw[az]
  have dX:hd 10 s=s:=by unfold hd;rw[az]
  have n1:=yP s ((g' 10 s).length:Int) hs;rw[az,dX] at c1;simp only[f66,c1,Option.bind_some,n1,wg,Option.isSome_none,Bool.not_false,Bool.not_true,cond_false,cond_true,hz];rfl
 |some q=>
  obtain⟨bW,r⟩:=q;have hl:=(jk az).1;have hl:s.length=bW.length+1+r.length:=by rw[hl];simp;omega
  have dX:hd 10 s=bW:=by unfold hd;rw[az]
  have hB:g' 10 s=r:=by unfold g';rw[az]
  rw[az,dX,hB] at c1;have n1:=yP bW (r.length:Int) (by unfold au at hs ⊢;omega)
  have hz:iS s=bif fl (r.length:Int) bW then some (r.take (de bW).toNat,r.drop (de bW).toNat) else none:=by unfold iS;rw[az]
  cases hg:fl (r.length:Int) bW with
  |false=>
   rw[hg] at hz n1;simp only[f66,c1,Option.bind_some,n1,wg,Option.isSome_some,Bool.not_false,Bool.not_true,cond_false,cond_true,hz];rfl
  |true=>
   rw[hg] at hz n1;obtain⟨n,h1,_,h3⟩:=QM hg;rw[h1] at hz n1;have s1:bm r 0 (n:Int)=some (r.take n):=fY (by omega)
   have s2:bm r (n:Int) ((r.length:Nat):Int)=some (r.drop n):=fw (by omega)
   simp only[f66,c1,Option.bind_some,n1,wg,Option.isSome_some,Bool.not_false,Bool.not_true,cond_false,cond_true,s1,s2,hz];rfl
theorem yI{s x y:B}(h:iS s=some (x,y)):s=cG x++y/\y.length<s.length:=by
 unfold iS at h;cases az:dw 10 s with
 |none=>rw[az] at h;cases h
 |some q=>
  obtain⟨bW,r⟩:=q;rw[az] at h;have hs:=(jk az).1;have h:(bif fl (r.length:Int) bW then some (r.take (de bW).toNat,r.drop (de bW).toNat) else none)=some (x,y):=h
  cases hg:fl (r.length:Int) bW with
  |false=>rw[hg] at h;cases h
  |true=>
   rw[hg] at h;obtain⟨n,h1,h2,h3⟩:=QM hg;simp only[cond_true,Option.some.injEq,Prod.mk.injEq,h1,Int.toNat_natCast] at h;obtain⟨rfl,rfl⟩:=h;have hlen:(r.take n).length=n:=by simp;omega
   refine⟨?_,?_⟩
   ·unfold cG;rw[hlen,<-h2,hs];simp
   ·rw[hs];simp;omega
theorem y9(x y:B)(ib:x.length<1000000000):iS (cG x++y)=some (x,y):=by
 unfold iS;rw[yW];obtain⟨g1,g2⟩:=GK (n:=x.length) (m:=((x++y).length:Int)) (by simp;omega) ib
 show(bif fl ((x++y).length:Int) (Lib.itoa (x.length:Int)) then _ else _)=_
 rw[g1,g2];simp
noncomputable abbrev azI:a_:=[(43,Em),(66,Nh),(67,acQ)]
theorem NA:aR O (aX ad azI):=aV ⟨LZ,aaJ,awd,⟨⟩⟩
abbrev RR:Shape:=⟨[ay 2 2 0,ba 4 3000256,ak 6,ak 7,ap 8],[bp 5000128 .pack 2 0,ax 2 [.own 5000128],a' 3000256 .pack 4 0],48⟩
abbrev Rx:List aP:=[(.norm,⟨[ay 2 2 0,ba 4 3000256,ak 6,ak 7,ap 26],[bp 5000128 .pack 2 0,ax 2 [.own 5000128],a' 3000256 .pack 4 0],48⟩)]
noncomputable def qF(y:RR.J):Option (aC Rx):=
 bif(!(!y.1.2.2.2.2.1)) then
 some (((),(),y.1.2.2.1,y.1.2.2.2.1,((y.2.2.2.1.length:Int)==(5:Int)),()),y.2.1,((),()),y.2.2.2.1,())
else
 some (((),(),y.1.2.2.1,y.1.2.2.2.1,true,()),y.2.1,((),()),y.2.2.2.1,())
theorem akh:aT O (an (c4 (an (codeOf Tryz.f35) 1 60)) 120 3860) (aU RR Rx qF):=ce NA (by kernel_rfl) ae fun y=>by kernel_rfl
abbrev BY:Shape:=⟨[ay 2 2 0,ba 4 3000256,ak 5],[bp 5000128 .pack 2 0,ax 2 [.own 5000128],a' 3000256 .pack 4 0],48⟩
abbrev Jq:List aP:=[(.ret,⟨[ay 2 2 0,ap 3],[bp 5000128 .pack 2 0,ax 2 [.own 5000128]],48⟩),(.exit 0,⟨[ay 2 2 0,ba 4 3000256],[bp 5000128 .pack 2 0,ax 2 [.own 5000128],a' 3000256 .pack 4 0],48⟩)]
noncomputable def pr(y:BY.J):bG BY Jq:=
 bif(!(y.1.2.2.1==([]:B))) then
(f66 ((y.1.2.2.1,()),())).bind fun a=>
(qF (((),(),a.1.1,a.1.2.1,a.1.2.2.1,()),y.2.1,((),()),y.2.2.2.1,())).bind fun b=>
 bif b.1.2.2.2.2.1 then
 some (.inr (.inl (((),false,()),([]:List aG),((),()),())))
else
(f67 ((b.1.2.2.1,()),())).bind fun c=>
 bif(!c.1.2.1) then
 some (.inr (.inl (((),false,()),([]:List aG),((),()),())))
else
(b9 80 b.2.2.2.1 ([(aG.mk c.2.2.2.1.1 c.2.2.2.1.2.1 c.2.1 c.2.2.1)]:List aG)).bind fun d=>
 some (.inl (((),(),b.1.2.2.2.1,()),b.2.1,((),()),d,()))
else
 some (.inr (.inr (((),(),()),y.2.1,((),()),y.2.2.2.1,())))
noncomputable def wa:BY.J->Option (aC Jq):=bu pr
theorem aoP:aT O (an (codeOf Tryz.f35) 1 60) (aU BY Jq wa):=bI NA (by kernel_rfl) (a8 akh ae) fun y=>by kernel_rfl
abbrev i35:Shape:=⟨[ak 0],[],48⟩
abbrev xu:Shape:=⟨[ay 2 2 0,ap 3],[bp 5000128 .pack 2 0,ax 2 [.own 5000128]],48⟩
noncomputable def f35(a:i35.J):Option xu.J:=
(wa (((),(),a.1.1,()),([]:List aG),((),()),([]:List aG),())).bind fun b=>
(match b with
|.inl c=>
 some (((),c.1.2.1,()),c.2.1,((),()),())
|.inr d=>
(f43 (((d.2.2.2.1,()),()),())).bind fun e=>
 bif(!e.1.1) then
 some (((),false,()),([]:List aG),((),()),())
else
 some (((),true,()),d.2.2.2.1,((),()),()))
noncomputable def Nk:aD:=aH ad Tryz.f35 i35 xu [] f35
theorem aaM:aB O 35 Nk:=aK NA Tryz.func35 (by kernel_rfl) (a8 aoP ae) (fun y=>by kernel_rfl) fun a=>by kernel_rfl
noncomputable abbrev azV:a_:=[(35,Nk)]
theorem aAi:aR O (aX ad azV):=aV ⟨aaM,⟨⟩⟩
abbrev i14:Shape:=⟨[b_ 0 [ah,ah]],[],17⟩
abbrev DQ:Shape:=⟨[ap 2],[],17⟩
noncomputable def f14(a:i14.J):Option DQ.J:=
(f35 ((a.1.1.1,()),())).bind fun b=>
 bif b.1.2.1 then
 some (((a.1.1.2.1==([]:B)),()),())
else
 some ((false,()),())
noncomputable def rW:aD:=aH ad Tryz.f14 i14 DQ [] f14
theorem DG:aB O 14 rW:=aK aAi Tryz.func14 (by kernel_rfl) ae (fun y=>by kernel_rfl) fun a=>by kernel_rfl
abbrev pL(ps:List aG):Prop:=∀p,p∈ps->cj p=true/\(bw p).length<=4000
def mC(s:B)(ps:List aG):Prop:=ej ps=true/\b8 ps=s/\pL ps
abbrev N4(ps:List aG):xu.J:=(((),(true,())),(ps,(((),()),())))
abbrev Na:xu.J:=(((),(false,())),(([]:List aG),(((),()),())))
def ayZ(D:Option (List aG)):xu.J:=match D with|some ps=>N4 ps|none=>Na
theorem sT{ps:List aG}(h:pL ps)(hl:ps.length<=6):fb ps/\jI ps:=by
 refine⟨⟨by show ps.length<=2097152;omega,fun p hp=>Jt (h p hp).1 (h p hp).2⟩,fun p hp=>?_⟩
 obtain⟨hk,az⟩:=h p hp;obtain⟨q1,q2,dF,mR⟩:=yJ p;refine⟨by omega,fun n hn=>?_⟩
 have h:=EW cz hn;have iM:(cz n).length=(cK n).length+6:=by unfold cz;simp
 have hp:n.name.length+n.aW.length<=(cK n).length:=by unfold cK;simp
 omega
theorem vg(p:aG)(ps:List aG):b8 (p::ps)=cG (bw p)++b8 ps:=by unfold b8;rw[List.flatMap_cons]
theorem aoq:∀(m:Nat) (s:B) (ps:List aG),s.length<=m->m<=1000000000->ps.length<=5->
  wa (((),((),(s,()))),(([]:List aG),(((),()),(ps,()))))=some (.inl Na)\/
  ∃qs:List aG,wa (((),((),(s,()))),(([]:List aG),(((),()),(ps,()))))=some (.inr (((),((),())),(([]:List aG),(((),()),(ps++qs,())))))/\b8 qs=s/\pL qs/\(ps++qs).length<=5:=by
 intro m;induction m with
 |zero=>
  intro s ps hs _ hl;have:s=[]:=List.length_eq_zero_iff.1 (by omega)
  subst this;exact .inr ⟨[],by rw[List.append_nil];exact cp rfl,rfl,fun p hp=>(by cases hp),by simpa using hl⟩
 |succ m ih=>
  intro s ps hs hm hl;cases s with
  |nil=>exact .inr ⟨[],by rw[List.append_nil];exact cp rfl,rfl,fun p hp=>(by cases hp),by simpa using hl⟩
  |cons b iz=>
   have hne:((b::iz)==([]:B))=false:=rfl;generalize eI:b::iz=s at hs hne;have z:=EY s (by unfold au;omega)
   cases hz:iS s with
   |none=>
    rw[hz] at z;refine .inl (cp ?_);simp only[pr,hne,Bool.not_false,cond_true,z,Option.bind_some,Option.isSome_none,qF,Bool.not_true,cond_false]
   |some q=>
    obtain⟨x,y⟩:=q;obtain⟨aE,aF⟩:=yI hz;rw[hz] at z;have z:f66 ((s,()),())=some ((x,(y,(true,()))),()):=z;by_cases bl:ps.length=5
    ·refine .inl (cp ?_);have d:(((ps.length:Nat):Int)==5)=true:=by rw[beq_iff_eq];omega
     simp only[pr,hne,Bool.not_false,cond_true,z,Option.bind_some,qF,Bool.not_true,cond_false,d]
    ·have d:(((ps.length:Nat):Int)==5)=false:=by rw[beq_eq_false_iff_ne];omega
     have hx:x.length<=s.length:=by rw[aE];unfold cG;simp;omega
     obtain⟨D,g1,g2⟩:=agv x (by unfold au;omega)
     cases D with
     |none=>
      have g1:f67 ((x,()),())=some N5:=g1;refine .inl (cp ?_);simp only[pr,hne,Bool.not_false,cond_true,z,Option.bind_some,qF,Bool.not_true,cond_false,d,g1]
     |some p=>
      have g1:f67 ((x,()),())=some (sj p):=g1;obtain⟨iA,je,p3⟩:=(g2 p).1 rfl;have fr:b9 80 ps ([(aG.mk p.name p.aW p.bi p.bB)]:List aG)=some (ps++[p]):=di (by decide) (by unfold au;simp;omega)
      have st:pr (((),((),(s,()))),(([]:List aG),(((),()),(ps,()))))=some (.inl (((),((),(y,()))),(([]:List aG),(((),()),(ps++[p],()))))):=by
       simp only[pr,hne,Bool.not_false,cond_true,z,Option.bind_some,qF,Bool.not_true,cond_false,d,g1,fr]
      rcases ih y (ps++[p]) (by omega) (by omega) (by simp;omega) with e|⟨qs,e1,e2,br,da⟩
      ·exact .inl ((dM st).trans e)
      ·rw[List.append_assoc] at e1 da;refine .inr ⟨p::qs,(dM st).trans e1,by rw[vg,e2,je,<-aE],fun r hr=>?_,da⟩
       rcases List.mem_cons.1 hr with rfl|hr
       ·exact⟨iA,by rw[je];exact p3⟩
       ·exact br r hr
theorem aop:∀(qs ps:List aG),pL qs->ps.length+qs.length<=5->
  wa (((),((),(b8 qs,()))),(([]:List aG),(((),()),(ps,()))))=some (.inr (((),((),())),(([]:List aG),(((),()),(ps++qs,()))))):=by
 intro qs;induction qs with
 |nil=>intro ps _ _;rw[List.append_nil];exact cp rfl
 |cons p qs ih=>
  intro ps h hl;obtain⟨h1,h2⟩:=h p List.mem_cons_self;have hz:=y9 (bw p) (b8 qs) (by omega)
  rw[<-vg] at hz;have hlen:(b8 (p::qs)).length<=30000:=by
   have:=m' (f:=fun p=>cG (bw p)) (xs:=p::qs) (n:=5000) fun q az=>by
    have:=(h q az).2;have:=jK (bw q).length (by omega)
    show(cG (bw q)).length<=5000;unfold cG;simp;omega
   have e:(b8 (p::qs)).length=((p::qs).flatMap fun p=>cG (bw p)).length:=rfl
   simp only[List.length_cons] at hl this;have ca:(qs.length+1)*5000<=6*5000:=Nat.mul_le_mul_right _ (by omega)
   omega
  have z:=EY (b8 (p::qs)) (by unfold au;omega)
  rw[hz] at z;have z:f66 ((b8 (p::qs),()),())=some ((bw p,(b8 qs,(true,()))),()):=z;have g1:=EN h1 h2;have hne:(b8 (p::qs)==([]:B))=false:=by
   have:=(yI hz).2;cases hx:b8 (p::qs) with
   |nil=>rw[hx] at this;simp at this
   |cons b r=>rfl
  have d:(((ps.length:Nat):Int)==5)=false:=by rw[beq_eq_false_iff_ne];simp at hl;omega
  have fr:b9 80 ps ([(aG.mk p.name p.aW p.bi p.bB)]:List aG)=some (ps++[p]):=di (by decide) (by unfold au;simp;simp at hl;omega)
  have st:pr (((),((),(b8 (p::qs),()))),(([]:List aG),(((),()),(ps,()))))=some (.inl (((),((),(b8 qs,()))),(([]:List aG),(((),()),(ps++[p],()))))):=by
   simp only[pr,hne,Bool.not_false,cond_true,z,Option.bind_some,qF,Bool.not_true,cond_false,d,g1,fr]
  have:=ih (ps++[p]) (fun r hr=>h r (List.mem_cons_of_mem _ hr)) (by simp at hl ⊢;omega)
  rw[List.append_assoc] at this;exact(dM st).trans this
theorem Pq(s:B)(hs:s.length<=1000000000):∃D:Option (List aG),f35 ((s,()),())=some (ayZ D)/\ly D (mC s):=by
 have put:∀ps:List aG,mC s ps->f35 ((s,()),())=some (N4 ps):=by
  intro ps ⟨h1,h2,h3⟩;subst h2;have hl:ps.length<=5:=(kb h1).2;obtain⟨hb,hv⟩:=sT h3 (by omega)
  have g:=aop ps [] h3 (by simpa using hl)
  have e:=yQ (((ps,()),()),()) hb hv;have e:f43 (((ps,()),()),())=some ((ej ps,()),()):=e;rw[h1] at e;simp only[f35,g,List.nil_append,Option.bind_some,e,Bool.not_true,cond_false]
 have any:f35 ((s,()),())=some Na\/∃ps,f35 ((s,()),())=some (N4 ps)/\mC s ps:=by
  rcases aoq s.length s [] (Nat.le_refl _) hs (by decide) with g|⟨qs,g,h1,h2,h3⟩
  ·refine .inl ?_
   simp only[f35,g,Option.bind_some]
  ·rw[List.nil_append] at g h3;obtain⟨hb,hv⟩:=sT h2 (by omega)
   have e:=yQ (((qs,()),()),()) hb hv;have e:f43 (((qs,()),()),())=some ((ej qs,()),()):=e;cases hr:ej qs with
   |false=>
    rw[hr] at e;refine .inl ?_
    simp only[f35,g,Option.bind_some,e,Bool.not_false,cond_true]
   |true=>
    rw[hr] at e;refine .inr ⟨qs,?_,hr,h1,h2⟩;simp only[f35,g,Option.bind_some,e,Bool.not_true,cond_false]
 rcases any with h|⟨ps,h,hr⟩
 ·refine⟨none,h,fun p=>⟨fun hp=>(by cases hp),fun hp=>?_⟩⟩
  have:=put p hp;rw[h] at this;simp only[Option.some.injEq,Prod.mk.injEq] at this;exact absurd this.1.2.1 (by decide)
 ·refine⟨some ps,h,fun q=>⟨fun hp=>by cases hp;exact hr,fun hp=>?_⟩⟩
  have:=put q hp;rw[h] at this;simp only[Option.some.injEq,Prod.mk.injEq] at this;rw[this.2.1]
theorem ahK(s t:B)(hs:s.length<=1000000000):∃D:Option (List aG),f14 (((s,(t,())),()),())=some ((D.isSome&&t==[],()),())/\ly D (mC s):=by
 obtain⟨D,h1,h2⟩:=Pq s hs;refine⟨D,?_,h2⟩;simp only[f14,h1,Option.bind_some];cases D<;>rfl
theorem Qp{c:UInt8}{k:Nat}{s:B}(h:b' c s):splitN c k s=[s]:=by
 cases k with
 |zero=>rfl
 |succ k=>unfold splitN;rw[anE h]
theorem Px{c:UInt8}{k:Nat}{a b:B}(h:b' c a):splitN c (k+1) (a++c::b)=a::splitN c k b:=by
 show(match dw c (a++c::b) with|some (x,y)=>x::splitN c k y|none=>[a++c::b])=_
 rw[sM h]
theorem alS(pre mid rest:B):bm (pre++mid++rest) (pre.length:Int) ((pre.length+mid.length:Nat):Int)=some mid:=by
 rw[qC (by omega) (by simp),show pre.length+mid.length=(pre++mid).length by simp,List.take_left' rfl,List.drop_left' rfl]
theorem anb(c:UInt8)(s:B)(hs:s.length<=1000000000):∀(rest mid pre:B) (parts:List B) (k ko:Nat),s=pre++mid++rest->b' c mid->parts.length+k=ko->parts.length<=pre.length->
  ∃(Ju:List B) (KE t:B),vK ((s,((c.toNat:Int),((ko:Int),((),((pre.length:Int),(((pre.length+mid.length:Nat):Int),())))))),(parts,()))=some ((s,((),((KE.length:Int),()))),(Ju,()))/\s=KE++t/\Ju++[t]=parts++splitN c k (mid++rest)/\Ju.length<=KE.length:=by
 intro rest;induction rest with
 |nil=>
  intro mid pre parts k ko h1 h2 h3 aA;rw[List.append_nil] at h1;refine⟨parts,pre,mid,cp ?_,h1,by rw[List.append_nil,Qp h2],aA⟩
  have d:decide (((pre.length+mid.length:Nat):Int)<(s.length:Int))=false:=decide_eq_false (by rw[h1];simp)
  simp only[pg,d,cond_false]
 |cons b r ih=>
  intro mid pre parts k ko h1 h2 h3 aA;have hl:s.length=pre.length+mid.length+1+r.length:=by rw[h1];simp;omega
  have d:decide (((pre.length+mid.length:Nat):Int)<(s.length:Int))=true:=decide_eq_true (by omega)
  cases k with
  |zero=>
   refine⟨parts,pre,mid++b::r,cp ?_,by rw[h1,List.append_assoc],rfl,aA⟩
   have d2:decide (((parts.length:Nat):Int)<(ko:Int))=false:=decide_eq_false (by omega)
   simp only[pg,d,d2,cond_true,cond_false]
  |succ k=>
   have d2:decide (((parts.length:Nat):Int)<(ko:Int))=true:=decide_eq_true (by omega)
   have hx:aO s ((pre.length+mid.length:Nat):Int)=some b:=by
    rw[b5,h1,List.getElem?_append_right (by simp)]
    simp
   have hw:IntKind.i64.wrap (((pre.length+mid.length:Nat):Int)+1)=((pre.length+mid.length+1:Nat):Int):=bX (by unfold au;omega)
   by_cases hb:b=c
   ·subst hb;have az:(((b.toNat:Nat):Int)==(b.toNat:Int))=true:=by simp
    have hm:bm s (pre.length:Int) ((pre.length+mid.length:Nat):Int)=some mid:=by rw[h1];exact alS pre mid _
    have ha:b9 16 parts ([mid]:List B)=some (parts++[mid]):=di (by decide) (by unfold au;simp;omega)
    have hp:(pre++mid++[b]).length=pre.length+mid.length+1:=by simp;omega
    obtain⟨hH,fB,t,g1,g2,g3,g4⟩:=ih [] (pre++mid++[b]) (parts++[mid]) k ko (by rw[h1];simp) (b'.nil b) (by simp;omega) (by rw[hp];simp;omega)
    rw[hp] at g1;refine⟨hH,fB,t,(dM ?_).trans g1,g2,?_,g4⟩
    ·simp only[pg,d,d2,cond_true,hx,Option.bind_some,az,hm,ha,hw];rfl
    ·rw[g3,Px h2];simp
   ·have az:(((b.toNat:Nat):Int)==(c.toNat:Int))=false:=by
     rw[beq_eq_false_iff_ne];intro h;exact hb (UInt8.toNat_inj.1 (by omega))
    obtain⟨hH,fB,t,g1,g2,g3,g4⟩:=ih (mid++[b]) pre parts (k+1) ko (by rw[h1];simp) (h2.cY fun x hx=>by rw[List.mem_singleton.1 hx];exact hb) h3 aA
    have hp:pre.length+(mid++[b]).length=pre.length+mid.length+1:=by simp;omega
    rw[hp] at g1;refine⟨hH,fB,t,(dM ?_).trans g1,g2,?_,g4⟩
    ·simp only[pg,d,d2,cond_true,hx,Option.bind_some,az,cond_false,hw]
    ·rw[g3];simp
theorem l8(c:UInt8)(s:B)(hs:s.length<=1000000000)(ko:Nat):f73 ((s,((c.toNat:Int),((ko:Int),()))),())=some (((),()),(splitN c ko s,())):=by
 obtain⟨hH,fB,t,g1,g2,g3,g4⟩:=anb c s hs s [] [] [] ko ko rfl (b'.nil c) (by simp) (Nat.le_refl _)
 have g1:vK ((s,((c.toNat:Int),((ko:Int),((),((0:Int),((0:Int),())))))),(([]:List B),()))=_:=g1;have az:fB.length<=s.length:=by rw[g2];simp
 have e1:bm s (fB.length:Int) ((s.length:Nat):Int)=some t:=by rw[fw az,g2];simp
 have e2:b9 16 hH ([t]:List B)=some (hH++[t]):=di (by decide) (by unfold au;simp;omega)
 simp only[f73,g1,Option.bind_some,e1,e2,g3];rfl
noncomputable abbrev auA:a_:=[(192,Lu),(218,Lp),(225,Ln)]
theorem Dz:aR O (aX ad auA):=aV ⟨W9,z218,W5,⟨⟩⟩
abbrev Aw:Shape:=⟨[ak 0,ay 2 2 0,ap 3,ag 4],[ax 2 [ah,a6,ah]],75⟩
abbrev HK:List aP:=[(.exit 0,⟨[ak 0,ay 2 2 0,ap 3,ag 4],[ax 2 [ah,a6,ah]],75⟩)]
noncomputable def qR(y:Aw.J):bG Aw HK:=
 bif(decide (y.1.2.2.2.1<(y.1.1.length:Int))) then
(aO y.1.1 y.1.2.2.2.1).bind fun a=>
 bif((a.toNat:Int) !=(61:Int)) then
(aO y.1.1 y.1.2.2.2.1).bind fun b=>
 bif((b.toNat:Int) !=(62:Int)) then
(aO y.1.1 y.1.2.2.2.1).bind fun c=>
 bif((c.toNat:Int) !=(60:Int)) then
 some (.inl ((y.1.1,(),y.1.2.2.1,(IntKind.i64.wrap (y.1.2.2.2.1+(1:Int))),()),(y.2.1.1,y.2.1.2.1,y.2.1.2.2.1,()),()))
else
 some (.inr ((y.1.1,(),y.1.2.2.1,y.1.2.2.2.1,()),(y.2.1.1,y.2.1.2.1,y.2.1.2.2.1,()),()))
else
 some (.inr ((y.1.1,(),y.1.2.2.1,y.1.2.2.2.1,()),(y.2.1.1,y.2.1.2.1,y.2.1.2.2.1,()),()))
else
 some (.inr ((y.1.1,(),y.1.2.2.1,y.1.2.2.2.1,()),(y.2.1.1,y.2.1.2.1,y.2.1.2.2.1,()),()))
else
 some (.inr ((y.1.1,(),y.1.2.2.1,y.1.2.2.2.1,()),(y.2.1.1,y.2.1.2.1,y.2.1.2.2.1,()),()))
noncomputable def AZ:Aw.J->Option (aC HK):=bu qR
theorem amv:aT O (an (codeOf Tryz.f179) 1 28) (aU Aw HK AZ):=bI Dz (by kernel_rfl) ae fun y=>by kernel_rfl
abbrev PB:Shape:=⟨[ak 0,ay 2 2 0,ap 3,ay 5 5 0,ak 6,ag 7,ak 8],[ax 2 [ah,a6,ah],ax 5 [ah,a6,ah]],75⟩
abbrev Pu:List aP:=[(.norm,⟨[ak 0,ay 2 2 0,ap 3,ay 5 5 0,ak 6,ag 7,ak 8,ap 58],[ax 2 [ah,a6,ah],ax 5 [ah,a6,ah]],75⟩)]
noncomputable def Fk(y:PB.J):Option (aC Pu):=
 bif(decide ((y.1.2.2.2.2.1.length:Int)>=(y.1.2.2.2.2.2.2.1.length:Int))) then
(bm y.1.2.2.2.2.1 (0:Int) (y.1.2.2.2.2.2.2.1.length:Int)).bind fun a=>
 some ((y.1.1,(),y.1.2.2.1,(),y.1.2.2.2.2.1,y.1.2.2.2.2.2.1,y.1.2.2.2.2.2.2.1,(a==y.1.2.2.2.2.2.2.1),()),(y.2.1.1,y.2.1.2.1,y.2.1.2.2.1,()),(y.2.2.1.1,y.2.2.1.2.1,y.2.2.1.2.2.1,()),())
else
 some ((y.1.1,(),y.1.2.2.1,(),y.1.2.2.2.2.1,y.1.2.2.2.2.2.1,y.1.2.2.2.2.2.2.1,false,()),(y.2.1.1,y.2.1.2.1,y.2.1.2.2.1,()),(y.2.2.1.1,y.2.2.1.2.1,y.2.2.1.2.2.1,()),())
theorem agP:aT O (an (c4 (an (codeOf Tryz.f179) 1 506)) 1012 32402) (aU PB Pu Fk):=ce Dz (by kernel_rfl) ae fun y=>by kernel_rfl
abbrev zC:Shape:=⟨[ak 0,ay 2 2 0,ap 3,ay 5 5 0,ak 6,ag 7],[ax 2 [ah,a6,ah],ax 5 [ah,a6,ah]],75⟩
abbrev Gx:List aP:=[(.exit 2,⟨[ak 0,ay 2 2 0,ap 3,ay 5 5 0],[ax 2 [ah,a6,ah],ax 5 [ah,a6,ah]],75⟩)]
noncomputable def vw(y:zC.J):bG zC Gx:=
 bif(decide (y.1.2.2.2.2.2.1<=(3:Int))) then
(f225 ((y.1.2.2.2.2.2.1,()),())).bind fun a=>
(Fk ((y.1.1,(),y.1.2.2.1,(),y.1.2.2.2.2.1,y.1.2.2.2.2.2.1,a.1.1,()),(y.2.1.1,y.2.1.2.1,y.2.1.2.2.1,()),(y.2.2.1.1,y.2.2.1.2.1,y.2.2.1.2.2.1,()),())).bind fun b=>
 bif b.1.2.2.2.2.2.2.2.1 then
(bm b.1.2.2.2.2.1 (b.1.2.2.2.2.2.2.1.length:Int) (b.1.2.2.2.2.1.length:Int)).bind fun c=>
 some (.inl ((b.1.1,(),b.1.2.2.1,(),b.1.2.2.2.2.1,(IntKind.i64.wrap (b.1.2.2.2.2.2.1+(1:Int))),()),(b.2.1.1,b.2.1.2.1,b.2.1.2.2.1,()),(b.2.2.1.1,b.1.2.2.2.2.2.1,c,()),()))
else
 some (.inl ((b.1.1,(),b.1.2.2.1,(),b.1.2.2.2.2.1,(IntKind.i64.wrap (b.1.2.2.2.2.2.1+(1:Int))),()),(b.2.1.1,b.2.1.2.1,b.2.1.2.2.1,()),(b.2.2.1.1,b.2.2.1.2.1,b.2.2.1.2.2.1,()),()))
else
 some (.inr ((y.1.1,(),y.1.2.2.1,(),()),(y.2.1.1,y.2.1.2.1,y.2.1.2.2.1,()),(y.2.2.1.1,y.2.2.1.2.1,y.2.2.1.2.2.1,()),()))
noncomputable def GZ:zC.J->Option (aC Gx):=bu vw
theorem akz:aT O (an (codeOf Tryz.f179) 1 506) (aU zC Gx GZ):=bI Dz (by kernel_rfl) (a8 agP ae) fun y=>by kernel_rfl
abbrev i179:Shape:=⟨[ak 0],[],75⟩
abbrev Yj:Shape:=⟨[ay 2 2 0,ap 3],[ax 2 [ah,a6,ah]],75⟩
noncomputable def f179(a:i179.J):Option Yj.J:=
(AZ ((a.1.1,(),false,(0:Int),()),(([]:B),(0:Int),([]:B),()),())).bind fun b=>
(bm b.1.1 (0:Int) b.1.2.2.2.1).bind fun c=>
(bm b.1.1 b.1.2.2.2.1 (b.1.1.length:Int)).bind fun d=>
(GZ ((b.1.1,(),b.1.2.2.1,(),d,(1:Int),()),(b.2.1.1,b.2.1.2.1,b.2.1.2.2.1,()),(c,(0:Int),([]:B),()),())).bind fun e=>
(f192 (((e.2.2.1.1,e.2.2.1.2.1,e.2.2.1.2.2.1,()),()),())).bind fun f=>
 bif f.1.1 then
(f218 (((e.2.2.1.1,e.2.2.1.2.1,e.2.2.1.2.2.1,()),()),())).bind fun g=>
 some (((),(g.1.1==e.1.1),()),(e.2.2.1.1,e.2.2.1.2.1,e.2.2.1.2.2.1,()),())
else
 some (((),false,()),(e.2.2.1.1,e.2.2.1.2.1,e.2.2.1.2.2.1,()),())
noncomputable def _u:aD:=aH ad Tryz.f179 i179 Yj [] f179
theorem ar9:aB O 179 _u:=aK Dz Tryz.func179 (by kernel_rfl) (a8 amv (a8 akz ae)) (fun y=>by kernel_rfl) fun a=>by kernel_rfl
theorem ane(s:B)(hs:s.length<=1000000000):∀(t a:B),s=a++t->(∀y,y∈a->eU.contains y=false)->
  ∃cS bo:B,AZ ((s,((),(false,((a.length:Int),())))),((([]:B),((0:Int),(([]:B),()))),()))=some ((s,((),(false,((cS.length:Int),())))),((([]:B),((0:Int),(([]:B),()))),()))/\s=cS++bo/\(∀y,y∈cS->eU.contains y=false)/\(bo=[]\/∃x r,bo=x::r/\eU.contains x=true):=by
 intro t;induction t with
 |nil=>
  intro a h1 h2;refine⟨a,[],cp ?_,h1,h2,.inl rfl⟩;have d:decide (((a.length:Nat):Int)<(s.length:Int))=false:=decide_eq_false (by rw[h1];simp)
  simp only[qR,d,cond_false]
 |cons b r ih=>
  intro a h1 h2;have hl:s.length=a.length+1+r.length:=by rw[h1];simp;omega
  have d:decide (((a.length:Nat):Int)<(s.length:Int))=true:=decide_eq_true (by omega)
  have hx:aO s (a.length:Int)=some b:=by
   rw[b5,h1,List.getElem?_append_right (by omega)];simp
  have hw:IntKind.i64.wrap (((a.length:Nat):Int)+1)=((a.length+1:Nat):Int):=bX (by unfold au;omega)
  cases hb:eU.contains b with
  |true=>
   refine⟨a,b::r,cp ?_,h1,h2,.inr ⟨b,r,rfl,hb⟩⟩;have hc:b=61\/b=60\/b=62:=by simpa[eU] using hb
   rcases hc with rfl|rfl|rfl
   ·have t1:((((61:UInt8).toNat:Nat):Int) !=61)=false:=rfl;simp only[qR,d,cond_true,hx,Option.bind_some,t1,cond_false]
   ·have t1:((((60:UInt8).toNat:Nat):Int) !=61)=true:=rfl;have t2:((((60:UInt8).toNat:Nat):Int) !=62)=true:=rfl;have t3:((((60:UInt8).toNat:Nat):Int) !=60)=false:=rfl;simp only[qR,d,cond_true,hx,Option.bind_some,t1,t2,t3,cond_false]
   ·have t1:((((62:UInt8).toNat:Nat):Int) !=61)=true:=rfl;have t2:((((62:UInt8).toNat:Nat):Int) !=62)=false:=rfl;simp only[qR,d,cond_true,hx,Option.bind_some,t1,t2,cond_false]
  |false=>
   have hc:¬(b=61\/b=60\/b=62):=by
    intro h;rcases h with rfl|rfl|rfl<;>revert hb<;>decide
   have ne:∀k:UInt8,b≠k->(((b.toNat:Nat):Int) !=(k.toNat:Int))=true:=fun k hk=>by
    rw[bne_iff_ne];intro h;exact hk (UInt8.toNat_inj.1 (by omega))
   have t1:(((b.toNat:Nat):Int) !=61)=true:=ne 61 fun h=>hc (.inl h)
   have t2:(((b.toNat:Nat):Int) !=62)=true:=ne 62 fun h=>hc (.inr (.inr h))
   have t3:(((b.toNat:Nat):Int) !=60)=true:=ne 60 fun h=>hc (.inr (.inl h))
   have st:qR ((s,((),(false,((a.length:Int),())))),((([]:B),((0:Int),(([]:B),()))),()))=some (.inl ((s,((),(false,(((a.length+1:Nat):Int),())))),((([]:B),((0:Int),(([]:B),()))),()))):=by
    simp only[qR,d,cond_true,hx,Option.bind_some,t1,t2,t3,hw]
   obtain⟨cS,bo,g1,g2⟩:=ih (a++[b]) (by rw[h1];simp) (fun y hy=>by
    rcases List.mem_append.1 hy with hy|hy
    ·exact h2 y hy
    ·rw[List.mem_singleton.1 hy];exact hb)
   rw[show(a++[b]).length=a.length+1 by simp] at g1
   exact⟨cS,bo,(dM st).trans g1,g2⟩
def jb(t:B)(k:Int)(q:Int×B):Int×B:=match dW (dN k) t with|some r=>(k,r)|none=>q
theorem Ij(s t bN v:B)(k q:Int)(h:k<=3)(h0:0<=k):
  vw ((s,((),(false,((),(t,(k,())))))),((([]:B),((0:Int),(([]:B),()))),((bN,(q,(v,()))),())))=some (.inl ((s,((),(false,((),(t,(k+1,())))))),((([]:B),((0:Int),(([]:B),()))),((bN,((jb t k (q,v)).1,((jb t k (q,v)).2,()))),())))):=by
 have d:decide (k<=3)=true:=decide_eq_true h;have e:=Ri k;have hw:IntKind.i64.wrap (k+1)=k+1:=cT (by omega) (by omega)
 unfold jb dW;have Z:decide (((t.length:Nat):Int)>=(((dN k).length:Nat):Int))=decide ((dN k).length<=t.length):=by congr 1;apply propext;omega
 simp only[vw,d,cond_true,e,Option.bind_some,Fk,Z];cases hc:decide ((dN k).length<=t.length) with
 |false=>simp only[cond_false,Option.bind_some,Bool.false_and,hw]
 |true=>
  have hle:=of_decide_eq_true hc;have e1:bm t 0 (((dN k).length:Nat):Int)=some (t.take (dN k).length):=fY hle;have e2:bm t (((dN k).length:Nat):Int) ((t.length:Nat):Int)=some (t.drop (dN k).length):=fw hle;simp only[cond_true,e1,Option.bind_some,Bool.true_and];cases t.take (dN k).length==dN k with
  |false=>simp only[cond_false,hw]
  |true=>simp only[cond_true,e2,Option.bind_some,hw]
theorem ah5:∀{a cS t bo:B},a++t=cS++bo->(∀y,y∈a->eU.contains y=false)->(∀y,y∈cS->eU.contains y=false)->(t=[]\/∃x r,t=x::r/\eU.contains x=true)->(bo=[]\/∃x r,bo=x::r/\eU.contains x=true)->a=cS/\t=bo:=by
 intro a;induction a with
 |nil=>
  intro cS t bo h h1 h2 h3 aA;cases cS with
  |nil=>exact⟨rfl,h⟩
  |cons b r=>
   have hb:=h2 b List.mem_cons_self;rcases h3 with rfl|⟨x,eH,rfl,hx⟩
   ·cases h
   ·have:x=b:=by simp at h;exact h.1
    rw[this,hb] at hx;cases hx
 |cons b a ih=>
  intro cS t bo h h1 h2 h3 aA;cases cS with
  |nil=>
   have hb:=h1 b List.mem_cons_self;rcases aA with rfl|⟨x,eH,rfl,hx⟩
   ·cases h
   ·have:b=x:=by simp at h;exact h.1
    rw[<-this,hb] at hx;cases hx
  |cons bH cS=>
   simp only[List.cons_append,List.cons.injEq] at h;obtain⟨rfl,h⟩:=h;obtain⟨e1,e2⟩:=ih h (fun y hy=>h1 y (List.mem_cons_of_mem _ hy)) (fun y hy=>h2 y (List.mem_cons_of_mem _ hy)) h3 aA
   exact⟨by rw[e1],e2⟩
def fq(t:B):Int×B:=jb t 3 (jb t 2 (jb t 1 (0,[])))
theorem Ik(t:B)(k:Int)(q:Int×B)(h:q.2.length<=t.length):(jb t k q).2.length<=t.length:=by
 unfold jb;split
 ·rename_i r hr;exact Q6 hr
 ·exact h
theorem Tz(t:B):(fq t).2.length<=t.length:=Ik t 3 _ (Ik t 2 _ (Ik t 1 _ (Nat.zero_le _)))
theorem SA(s:B)(hs:s.length<=2000000):∃(a t:B) (ok:Bool),f179 ((s,()),())=some (((),(ok,())),((a,((fq t).1,((fq t).2,()))),()))/\s=a++t/\(∀y,y∈a->eU.contains y=false)/\(t=[]\/∃x r,t=x::r/\eU.contains x=true):=by
 obtain⟨a,t,g1,h1,h2,h3⟩:=ane s (by omega) s [] rfl (fun y hy=>by cases hy)
 have g1:AZ ((s,((),(false,((0:Int),())))),((([]:B),((0:Int),(([]:B),()))),()))=_:=g1;have hl:s.length=a.length+t.length:=by rw[h1];simp
 have e1:bm s 0 ((a.length:Nat):Int)=some a:=by rw[fY (by omega),h1];simp
 have e2:bm s ((a.length:Nat):Int) ((s.length:Nat):Int)=some t:=by rw[fw (by omega),h1];simp
 have s1:=Ij s t a [] 1 0 (by decide) (by decide)
 have s2:=Ij s t a (jb t 1 (0,[])).2 2 (jb t 1 (0,[])).1 (by decide) (by decide)
 have hF:=Ij s t a (jb t 2 (jb t 1 (0,[]))).2 3 (jb t 2 (jb t 1 (0,[]))).1 (by decide) (by decide)
 have adB:vw ((s,((),(false,((),(t,((3:Int)+1,())))))),((([]:B),((0:Int),(([]:B),()))),((a,((fq t).1,((fq t).2,()))),())))=some (.inr ((s,((),(false,((),())))),((([]:B),((0:Int),(([]:B),()))),((a,((fq t).1,((fq t).2,()))),())))):=by
  have d:decide ((3:Int)+1<=3)=false:=by decide
  simp only[vw,d,cond_false]
 have g2:GZ ((s,((),(false,((),(t,((1:Int),())))))),((([]:B),((0:Int),(([]:B),()))),((a,((0:Int),(([]:B),()))),())))=some ((s,((),(false,((),())))),((([]:B),((0:Int),(([]:B),()))),((a,((fq t).1,((fq t).2,()))),()))):=
  (dM s1).trans ((dM s2).trans ((dM hF).trans (cp adB)))
 have hv:=Tz t;have br:=Rn (((a,((fq t).1,((fq t).2,()))),()),()) (by show a.length<=2097152;omega) (by show(fq t).2.length<=2097152;omega)
 have da:=Sz ⟨a,(fq t).1,(fq t).2⟩ ⟨by show a.length<=2097152;omega,by show(fq t).2.length<=2097152;omega⟩
 refine⟨a,t,dD ⟨a,(fq t).1,(fq t).2⟩&&cK ⟨a,(fq t).1,(fq t).2⟩==s,?_,h1,h2,h3⟩;simp only[f179,g1,Option.bind_some,e1,e2,g2,br];cases dD ⟨a,(fq t).1,(fq t).2⟩ with
 |false=>rfl
 |true=>
  simp only[cond_true,da,Option.bind_some];rfl
theorem afx(s:B)(hs:s.length<=2000000):∃(n:bx) (ok:Bool),f179 ((s,()),())=some (((),(ok,())),((n.name,(n.kind,(n.aW,()))),()))/\n.name.length<=s.length/\n.aW.length<=s.length:=by
 obtain⟨a,t,ok,h,h1,_⟩:=SA s hs;have hv:=Tz t;have hl:s.length=a.length+t.length:=by rw[h1];simp
 exact⟨⟨a,(fq t).1,(fq t).2⟩,ok,h,by show a.length<=_;omega,by show(fq t).2.length<=_;omega⟩
theorem afw{n:bx}(h:dD n=true)(hs:(cK n).length<=2000000):∃ok:Bool,f179 ((cK n,()),())=some (((),(ok,())),((n.name,(n.kind,(n.aW,()))),())):=by
 obtain⟨a,t,ok,e,h1,h2,h3⟩:=SA (cK n) hs;obtain⟨aE,aF⟩:=yu h;have hno:=RL (EU aE);obtain⟨bN,k,v⟩:=n;have key:∀bo:B,cK ⟨bN,k,v⟩=bN++bo->(bo=[]\/∃x r,bo=x::r/\eU.contains x=true)->fq bo=(k,v)->∃ok:Bool,f179 ((cK ⟨bN,k,v⟩,()),())=some (((),(ok,())),((bN,(k,(v,()))),())):=by
  intro bo q1 q2 dF;obtain⟨e1,e2⟩:=ah5 (h1.symm.trans q1) h2 hno h3 q2;subst e1 e2;rw[dF] at e;exact⟨ok,e⟩
 rcases aF with⟨hk,hv⟩|⟨hk,hv⟩
 ·have hk:k=0:=hk;have hv:v=[]:=hv;subst hk hv;exact key [] (by unfold cK dN;simp) (.inl rfl) (by decide)
 ·rcases hk with hk|hk|hk
  ·have hk:k=1:=hk;subst hk;refine key (61::v) (by unfold cK dN;simp) (.inr ⟨61,v,rfl,by decide⟩) ?_
   have d1:dW (dN 1) (61::v)=some v:=vn [61] v;have d2:dW (dN 2) (61::v)=none:=by unfold dW;cases v<;>simp[dN]
   have d3:dW (dN 3) (61::v)=none:=by unfold dW;simp[dN]
   simp only[fq,jb,d1,d2,d3]
  ·have hk:k=2:=hk;subst hk;refine key (62::61::v) (by unfold cK dN;simp) (.inr ⟨62,61::v,rfl,by decide⟩) ?_
   have d1:dW (dN 1) (62::61::v)=none:=by unfold dW;simp[dN]
   have d2:dW (dN 2) (62::61::v)=some v:=vn [62,61] v;have d3:dW (dN 3) (62::61::v)=none:=by unfold dW;simp[dN]
   simp only[fq,jb,d1,d2,d3]
  ·have hk:k=3:=hk;subst hk;refine key (60::v) (by unfold cK dN;simp) (.inr ⟨60,v,rfl,by decide⟩) ?_
   have d1:dW (dN 1) (60::v)=none:=by unfold dW;simp[dN]
   have d2:dW (dN 2) (60::v)=none:=by unfold dW;cases v<;>simp[dN]
   have d3:dW (dN 3) (60::v)=some v:=vn [60] v;simp only[fq,jb,d1,d2,d3]
noncomputable abbrev auz:a_:=[(73,qd),(74,Ei),(75,oS)]
theorem xg:aR O (aX ad auz):=aV ⟨rs,LW,z75,⟨⟩⟩
abbrev R0:Shape:=⟨[ay 2 2 0,ak 3,ap 4,ba 5 3000320,ba 6 3000384],[ax 2 [ah,a6,a6,ah],a' 3000320 .str 5 0,a' 3000384 .str 6 0],110⟩
abbrev RG:List aP:=[(.norm,⟨[ay 2 2 0,ak 3,ap 4,ba 5 3000320,ba 6 3000384,ap 18],[ax 2 [ah,a6,a6,ah],a' 3000320 .str 5 0,a' 3000384 .str 6 0],110⟩)]
noncomputable def m_(y:R0.J):Option (aC RG):=
(be y.2.2.2.1.length (0:Int)).bind fun a=>
(y.2.2.2.1[a]?).bind fun b=>
 bif(b==([100,105,114]:B)) then
 some (((),y.1.2.1,y.1.2.2.1,(),(),((y.2.2.2.1.length:Int)==(3:Int)),()),(y.2.1.1,y.2.1.2.1,y.2.1.2.2.1,y.2.1.2.2.2.1,()),y.2.2.1,y.2.2.2.1,())
else
 some (((),y.1.2.1,y.1.2.2.1,(),(),false,()),(y.2.1.1,y.2.1.2.1,y.2.1.2.2.1,y.2.1.2.2.2.1,()),y.2.2.1,y.2.2.2.1,())
theorem aky:aT O (an (codeOf Tryz.f180) 1 248) (aU R0 RG m_):=ce xg (by kernel_rfl) ae fun y=>by kernel_rfl
abbrev RZ:Shape:=⟨[ay 2 2 0,ak 3,ap 4,ba 5 3000320,ba 6 3000384],[ax 2 [ah,a6,a6,ah],a' 3000320 .str 5 0,a' 3000384 .str 6 0],110⟩
abbrev RF:List aP:=[(.norm,⟨[ay 2 2 0,ak 3,ap 4,ba 5 3000320,ba 6 3000384,ap 39],[ax 2 [ah,a6,a6,ah],a' 3000320 .str 5 0,a' 3000384 .str 6 0],110⟩)]
noncomputable def n8(y:RZ.J):Option (aC RF):=
(be y.2.2.2.1.length (0:Int)).bind fun a=>
(y.2.2.2.1[a]?).bind fun b=>
 bif(b==([108,105,110,107]:B)) then
 some (((),y.1.2.1,y.1.2.2.1,(),(),((y.2.2.2.1.length:Int)==(3:Int)),()),(y.2.1.1,y.2.1.2.1,y.2.1.2.2.1,y.2.1.2.2.2.1,()),y.2.2.1,y.2.2.2.1,())
else
 some (((),y.1.2.1,y.1.2.2.1,(),(),false,()),(y.2.1.1,y.2.1.2.1,y.2.1.2.2.1,y.2.1.2.2.2.1,()),y.2.2.1,y.2.2.2.1,())
theorem akx:aT O (an (codeOf Tryz.f180) 1 998) (aU RZ RF n8):=ce xg (by kernel_rfl) ae fun y=>by kernel_rfl
abbrev Qw:Shape:=⟨[ay 2 2 0,ak 3,ap 4,ba 5 3000320,ba 6 3000384],[ax 2 [ah,a6,a6,ah],a' 3000320 .str 5 0,a' 3000384 .str 6 0],110⟩
abbrev Qd:List aP:=[(.norm,⟨[ay 2 2 0,ak 3,ap 4,ba 5 3000320,ba 6 3000384,ap 59],[ax 2 [ah,a6,a6,ah],a' 3000320 .str 5 0,a' 3000384 .str 6 0],110⟩)]
noncomputable def o'(y:Qw.J):Option (aC Qd):=
(be y.2.2.2.1.length (0:Int)).bind fun a=>
(y.2.2.2.1[a]?).bind fun b=>
 bif(b==([102,105,108,101]:B)) then
 some (((),y.1.2.1,y.1.2.2.1,(),(),((y.2.2.2.1.length:Int)==(4:Int)),()),(y.2.1.1,y.2.1.2.1,y.2.1.2.2.1,y.2.1.2.2.2.1,()),y.2.2.1,y.2.2.2.1,())
else
 some (((),y.1.2.1,y.1.2.2.1,(),(),false,()),(y.2.1.1,y.2.1.2.1,y.2.1.2.2.1,y.2.1.2.2.2.1,()),y.2.2.1,y.2.2.2.1,())
theorem air:aT O (an (codeOf Tryz.f180) 1 3998) (aU Qw Qd o'):=ce xg (by kernel_rfl) ae fun y=>by kernel_rfl
abbrev PA:Shape:=⟨[ay 2 2 0,ak 3,ap 4,ba 5 3000320,ba 6 3000384,ag 7],[ax 2 [ah,a6,a6,ah],a' 3000320 .str 5 0,a' 3000384 .str 6 0],110⟩
abbrev Pt:List aP:=[(.norm,⟨[ay 2 2 0,ak 3,ap 4,ba 5 3000320,ba 6 3000384,ag 7,ap 88],[ax 2 [ah,a6,a6,ah],a' 3000320 .str 5 0,a' 3000384 .str 6 0],110⟩)]
noncomputable def u_(y:PA.J):Option (aC Pt):=
(be y.2.2.1.length (1:Int)).bind fun a=>
(y.2.2.1[a]?).bind fun b=>
(f75 ((y.1.2.2.2.2.2.1,(0:Int),(IntKind.i64.wrap ((b.length:Int)-(1:Int))),()),())).bind fun c=>
 bif(!(!c.1.1)) then
(be y.2.2.1.length (1:Int)).bind fun d=>
(y.2.2.1[d]?).bind fun e=>
(aO e y.1.2.2.2.2.2.1).bind fun f=>
 some (((),y.1.2.1,y.1.2.2.1,(),(),y.1.2.2.2.2.2.1,((f.toNat:Int) !=(10:Int)),()),(y.2.1.1,y.2.1.2.1,y.2.1.2.2.1,y.2.1.2.2.2.1,()),y.2.2.1,y.2.2.2.1,())
else
 some (((),y.1.2.1,y.1.2.2.1,(),(),y.1.2.2.2.2.2.1,true,()),(y.2.1.1,y.2.1.2.1,y.2.1.2.2.1,y.2.1.2.2.2.1,()),y.2.2.1,y.2.2.2.1,())
theorem agO:aT O (an (codeOf Tryz.f180) 1 63988) (aU PA Pt u_):=ce xg (by kernel_rfl) ae fun y=>by kernel_rfl
abbrev i180:Shape:=⟨[ak 0],[],110⟩
abbrev wT:Shape:=⟨[ay 2 2 0,ak 3,ap 4],[ax 2 [ah,a6,a6,ah]],110⟩
noncomputable def f180(a:i180.J):Option wT.J:=
(f73 ((a.1.1,(10:Int),(1:Int),()),())).bind fun b=>
 bif(decide ((b.2.1.length:Int)<(2:Int))) then
 some (((),([]:B),false,()),(([]:B),(0:Int),(0:Int),([]:B),()),())
else
(be b.2.1.length (0:Int)).bind fun c=>
(b.2.1[c]?).bind fun d=>
(f73 ((d,(32:Int),(4:Int),()),())).bind fun e=>
(m_ (((),([]:B),false,(),(),()),(([]:B),(0:Int),(0:Int),([]:B),()),b.2.1,e.2.1,())).bind fun f=>
 bif f.1.2.2.2.2.2.1 then
(be f.2.2.2.1.length (2:Int)).bind fun g=>
(f.2.2.2.1[g]?).bind fun h=>
(be f.2.2.2.1.length (1:Int)).bind fun i=>
(f.2.2.2.1[i]?).bind fun j=>
(f74 ((j,()),())).bind fun k=>
(be f.2.2.1.length (1:Int)).bind fun l=>
(f.2.2.1[l]?).bind fun m=>
 some (((),m,true,()),(h,(1:Int),k.1.1,([]:B),()),())
else
(n8 (((),f.1.2.1,f.1.2.2.1,(),(),()),(f.2.1.1,f.2.1.2.1,f.2.1.2.2.1,f.2.1.2.2.2.1,()),f.2.2.1,f.2.2.2.1,())).bind fun n=>
 bif n.1.2.2.2.2.2.1 then
(be n.2.2.2.1.length (1:Int)).bind fun D=>
(n.2.2.2.1[D]?).bind fun p=>
(be n.2.2.2.1.length (2:Int)).bind fun q=>
(n.2.2.2.1[q]?).bind fun r=>
(be n.2.2.1.length (1:Int)).bind fun s=>
(n.2.2.1[s]?).bind fun t=>
 some (((),t,true,()),(p,(3:Int),(0:Int),r,()),())
else
(o' (((),n.1.2.1,n.1.2.2.1,(),(),()),(n.2.1.1,n.2.1.2.1,n.2.1.2.2.1,n.2.1.2.2.2.1,()),n.2.2.1,n.2.2.2.1,())).bind fun u=>
 bif u.1.2.2.2.2.2.1 then
(be u.2.2.2.1.length (3:Int)).bind fun v=>
(u.2.2.2.1[v]?).bind fun w=>
(f74 ((w,()),())).bind fun x=>
(u_ (((),u.1.2.1,u.1.2.2.1,(),(),x.1.1,()),(u.2.1.1,u.2.1.2.1,u.2.1.2.2.1,u.2.1.2.2.2.1,()),u.2.2.1,u.2.2.2.1,())).bind fun y=>
 bif y.1.2.2.2.2.2.2.1 then
 some (((),([]:B),false,()),(([]:B),(0:Int),(0:Int),([]:B),()),())
else
(be y.2.2.2.1.length (2:Int)).bind fun z=>
(y.2.2.2.1[z]?).bind fun A=>
(be y.2.2.2.1.length (1:Int)).bind fun bq=>
(y.2.2.2.1[bq]?).bind fun C=>
(f74 ((C,()),())).bind fun bh=>
(be y.2.2.1.length (1:Int)).bind fun E=>
(y.2.2.1[E]?).bind fun aS=>
(bm aS (0:Int) y.1.2.2.2.2.2.1).bind fun G=>
(be y.2.2.1.length (1:Int)).bind fun H=>
(y.2.2.1[H]?).bind fun I=>
(bm I (IntKind.i64.wrap (y.1.2.2.2.2.2.1+(1:Int))) (I.length:Int)).bind fun e8=>
 some (((),e8,true,()),(A,(2:Int),bh.1.1,G,()),())
else
 some (((),([]:B),false,()),(([]:B),(0:Int),(0:Int),([]:B),()),())
noncomputable def _t:aD:=aH ad Tryz.f180 i180 wT [] f180
theorem ar8:aB O 180 _t:=aK xg Tryz.func180 (by kernel_rfl) (a8 aky (a8 akx (a8 air (a8 agO ae)))) (fun y=>by kernel_rfl) fun a=>by kernel_rfl
def gL(s:B):Int:=bif s.all cP&&decide (s.length<=6)&&!(s==[])&&!ik s then de s else-1
theorem qx(s:B)(hs:au s.length):f74 ((s,()),())=some ((gL s,()),()):=Ho ((s,()),()) hs
theorem FQ(n:Nat)(h:n<1000000):gL (Lib.itoa (n:Int))=(n:Int):=by
 have h1:=qx (Lib.itoa (n:Int)) (by rw[n6];have:=Hg 5 n (by omega);unfold au;omega)
 rw[ag9 n h] at h1;simp only[Option.some.injEq,Prod.mk.injEq] at h1;exact h1.1.1.symm
def ry(aZ w2 cd r:B):Option (aw×B):=bif within (gL cd) 0 ((r.length:Int)-1) then(match r.drop (gL cd).toNat with|10::eH=>some (⟨w2,2,gL aZ,r.take (gL cd).toNat⟩,eH)|_=>none) else none
def gg(ws:List B)(r:B):Option (aw×B):=match ws with
 |[U,aZ,w2]=>bif U==hX then some (⟨w2,1,gL aZ,[]⟩,r) else bif U==hU then some (⟨aZ,3,0,w2⟩,r) else none
 |[U,aZ,w2,cd]=>bif U==im then ry aZ w2 cd r else none
 |_=>none
def nC(s:B):Option (aw×B):=match dw 10 s with
 |some (bW,r)=>gg (splitN 32 4 bW) r
 |none=>none
abbrev uU(D:Bool)(e:aw)(r:B):wT.J:=(((),(r,(D,()))),((e.path,(e.kind,(e.mode,(e.text,())))),()))
theorem Mh{n:Nat}(h:0<n):be n (0:Int)=some 0:=fx h
theorem Mg{n:Nat}(h:1<n):be n (1:Int)=some 1:=fx h
theorem abV{n:Nat}(h:2<n):be n (2:Int)=some 2:=fx h
theorem abU{n:Nat}(h:3<n):be n (3:Int)=some 3:=fx h
theorem Rk(s:B)(hs:s.length<=2000000):∃(r:B) (e:aw),f180 ((s,()),())=some (uU (nC s).isSome e r)/\∀q,nC s=some q->q=(e,r):=by
 have c1:=l8 10 s (by omega) 1
 have c1:f73 ((s,((10:Int),((1:Int),()))),())=_:=c1;have zero:∀{D:Option (aw×B)} {x:Option wT.J},D=none->x=some (uU false ⟨[],0,0,[]⟩ [])->∃(r:B) (e:aw),x=some (uU D.isSome e r)/\∀q,D=some q->q=(e,r):=by
  intro D x aM hx;subst aM;exact⟨[],⟨[],0,0,[]⟩,hx,fun q az=>by cases az⟩
 have one:∀{D:Option (aw×B)} {x:Option wT.J} {e:aw} {r:B},D=some (e,r)->x=some (uU true e r)->∃(r:B) (e:aw),x=some (uU D.isSome e r)/\∀q,D=some q->q=(e,r):=by
  intro D x e r aM hx;subst aM;exact⟨r,e,hx,fun q az=>by cases az;rfl⟩
 cases az:dw 10 s with
 |none=>
  have eL:splitN 10 1 s=[s]:=by unfold splitN;rw[az]
  rw[eL] at c1;refine zero (by unfold nC;rw[az]) ?_
  have d:decide ((([s]:List B).length:Int)<2)=true:=rfl;simp only[f180,c1,Option.bind_some,d,cond_true]
 |some q=>
  obtain⟨bW,rest⟩:=q;have hl:=(jk az).1;have hl:s.length=bW.length+1+rest.length:=by rw[hl];simp;omega
  have eL:splitN 10 1 s=[bW,rest]:=by unfold splitN;rw[az];rfl
  rw[eL] at c1;have c2:=l8 32 bW (by omega) 4
  have c2:f73 ((bW,((32:Int),((4:Int),()))),())=_:=c2;have hr:nC s=gg (splitN 32 4 bW) rest:=by unfold nC;rw[az]
  have hm:=qo 32 4 bW;have hp:=Pw 32 4 bW;rw[hr];generalize splitN 32 4 bW=ws at c2 hm hp;have d:decide ((([bW,rest]:List B).length:Int)<2)=false:=rfl;have i0:be ([bW,rest]:List B).length (0:Int)=some 0:=rfl;have i1:be ([bW,rest]:List B).length (1:Int)=some 1:=rfl;have fh:([bW,rest]:List B)[0]? =some bW:=rfl;have eh:([bW,rest]:List B)[1]? =some rest:=rfl;have w4:∀w:B,(w==([100,105,114]:B))=(w==hX):=fun _=>rfl
  have CR:∀w:B,(w==([108,105,110,107]:B))=(w==hU):=fun _=>rfl
  have tD:∀w:B,(w==([102,105,108,101]:B))=(w==im):=fun _=>rfl
  have other:∀(U:B) (more:List B),ws=U::more->((ws.length:Int)==3)=false->((ws.length:Int)==4)=false->gg ws rest=none->∃(r:B) (e:aw),f180 ((s,()),())=some (uU (gg ws rest).isSome e r)/\∀q,gg ws rest=some q->q=(e,r):=by
   intro U more hw h3 aA h;refine zero h ?_
   have hJ:be ws.length (0:Int)=some 0:=Mh (by omega)
   have dE:ws[0]? =some U:=by rw[hw];rfl
   simp only[f180,c1,Option.bind_some,d,cond_false,i0,fh,c2,m_,hJ,dE,h3];cases U==([100,105,114]:B)<;>simp only[cond_true,cond_false,Option.bind_some,n8,hJ,dE,h3]<;>cases U==([108,105,110,107]:B)<;>simp only[cond_true,cond_false,Option.bind_some,o',hJ,dE,aA]<;>cases U==([102,105,108,101]:B)<;>rfl
  match ws,other,c2,hm,hp with
  |[],other,c2,hm,hp=>exact absurd hp (by decide)
  |[U],other,c2,hm,hp=>exact other U [] rfl rfl rfl rfl
  |[U,aZ],other,c2,hm,hp=>exact other U [aZ] rfl rfl rfl rfl
  |U::aZ::w2::cd::k9::more,other,c2,hm,hp=>exact other U _ rfl (by rw[beq_eq_false_iff_ne];simp;omega) (by rw[beq_eq_false_iff_ne];simp;omega) rfl
  |[U,aZ,w2],_,c2,hm,hp=>
   have hJ:be ([U,aZ,w2]:List B).length (0:Int)=some 0:=rfl;have l2:be ([U,aZ,w2]:List B).length (1:Int)=some 1:=rfl;have qg:be ([U,aZ,w2]:List B).length (2:Int)=some 2:=rfl;have dE:([U,aZ,w2]:List B)[0]? =some U:=rfl;have cH:([U,aZ,w2]:List B)[1]? =some aZ:=rfl;have dm:([U,aZ,w2]:List B)[2]? =some w2:=rfl;have h3:((([U,aZ,w2]:List B).length:Int)==3)=true:=rfl;have aA:((([U,aZ,w2]:List B).length:Int)==4)=false:=rfl;have m1:=hm aZ (by simp)
   have n1:=qx aZ (by unfold au;omega)
   cases eT:U==hX with
   |true=>
    refine one (show gg [U,aZ,w2] rest=some (⟨w2,1,gL aZ,[]⟩,rest) by unfold gg;simp only[eT,cond_true]) ?_
    simp only[f180,c1,Option.bind_some,d,cond_false,i0,fh,c2,m_,hJ,dE,h3,w4,eT,cond_true,qg,dm,l2,cH,n1,i1,eh]
   |false=>
    cases e1:U==hU with
    |true=>
     refine one (show gg [U,aZ,w2] rest=some (⟨aZ,3,0,w2⟩,rest) by unfold gg;simp only[eT,e1,cond_true,cond_false]) ?_
     simp only[f180,c1,Option.bind_some,d,cond_false,i0,fh,c2,m_,hJ,dE,h3,w4,eT,cond_true,qg,dm,l2,cH,i1,eh,n8,CR,e1]
    |false=>
     refine zero (show gg [U,aZ,w2] rest=none by unfold gg;simp only[eT,e1,cond_false]) ?_
     simp only[f180,c1,Option.bind_some,d,cond_false,i0,fh,c2,m_,hJ,dE,h3,aA,w4,eT,n8,CR,e1,o'];cases U==([102,105,108,101]:B)<;>rfl
  |[U,aZ,w2,cd],_,c2,hm,hp=>
   have hJ:be ([U,aZ,w2,cd]:List B).length (0:Int)=some 0:=rfl;have l2:be ([U,aZ,w2,cd]:List B).length (1:Int)=some 1:=rfl;have qg:be ([U,aZ,w2,cd]:List B).length (2:Int)=some 2:=rfl;have NS:be ([U,aZ,w2,cd]:List B).length (3:Int)=some 3:=rfl;have dE:([U,aZ,w2,cd]:List B)[0]? =some U:=rfl;have cH:([U,aZ,w2,cd]:List B)[1]? =some aZ:=rfl;have dm:([U,aZ,w2,cd]:List B)[2]? =some w2:=rfl;have dJ:([U,aZ,w2,cd]:List B)[3]? =some cd:=rfl;have h3:((([U,aZ,w2,cd]:List B).length:Int)==3)=false:=rfl;have aA:((([U,aZ,w2,cd]:List B).length:Int)==4)=true:=rfl;have m1:=hm aZ (by simp)
   have m3:=hm cd (by simp)
   have n1:=qx aZ (by unfold au;omega)
   have iO:=qx cd (by unfold au;omega)
   have b1:∀b:Bool,(bif b then some ((((),(([]:B),(false,((),((),(false,())))))),((([]:B),((0:Int),((0:Int),(([]:B),())))),([bW,rest],([U,aZ,w2,cd],()))))) else some ((((),(([]:B),(false,((),((),(false,())))))),((([]:B),((0:Int),((0:Int),(([]:B),())))),([bW,rest],([U,aZ,w2,cd],()))))))=some ((((),(([]:B),(false,((),((),(false,())))))),((([]:B),((0:Int),((0:Int),(([]:B),())))),([bW,rest],([U,aZ,w2,cd],()))))):=fun b=>by cases b<;>rfl
   cases e2:U==im with
   |false=>
    refine zero (show gg [U,aZ,w2,cd] rest=none by unfold gg;simp only[e2,cond_false]) ?_
    simp only[f180,c1,Option.bind_some,d,cond_false,i0,fh,c2,m_,hJ,dE,h3,aA,b1,n8,o',tD,e2]
   |true=>
    have hw:gg [U,aZ,w2,cd] rest=ry aZ w2 cd rest:=by unfold gg;simp only[e2,cond_true]
    rw[hw];have jx:IntKind.i64.wrap (((rest.length:Nat):Int)-1)=(rest.length:Int)-1:=cT (by omega) (by omega)
    have hin:=og ((gL cd,((0:Int),((rest.length:Int)-1,()))),());have hin:f75 ((gL cd,((0:Int),((rest.length:Int)-1,()))),())=some ((within (gL cd) 0 ((rest.length:Int)-1),()),()):=hin;cases hi:within (gL cd) 0 ((rest.length:Int)-1) with
    |false=>
     rw[hi] at hin;refine zero (by unfold ry;rw[hi];rfl) ?_
     simp only[f180,c1,Option.bind_some,d,cond_false,i0,fh,c2,m_,hJ,dE,h3,aA,b1,n8,o',tD,e2,cond_true,NS,dJ,iO,u_,i1,eh,jx,hin,Bool.not_false,Bool.not_true]
    |true=>
     rw[hi] at hin;have hb:=sH hi;obtain⟨n,hn⟩:∃n:Nat,gL cd=(n:Int):=⟨(gL cd).toNat,by omega⟩
     rw[hn] at hin iO hb;have hlt:n<rest.length:=by omega
     have dV:ry aZ w2 cd rest=match rest.drop n with|10::eH=>some (⟨w2,2,gL aZ,rest.take n⟩,eH)|_=>none:=by
      unfold ry;rw[hi,hn];rfl
     have wH:rest.drop n=rest[n]::rest.drop (n+1):=List.drop_eq_getElem_cons hlt;have hx:aO rest ((n:Nat):Int)=some rest[n]:=by rw[b5];exact List.getElem?_eq_getElem hlt
     rw[wH] at dV;rw[dV];generalize rest[n]=b at hx;by_cases rP:b=10
     ·subst rP;have t1:((((10:UInt8).toNat:Nat):Int) !=10)=false:=rfl;have s1:bm rest 0 ((n:Nat):Int)=some (rest.take n):=fY (by omega)
      have awH:IntKind.i64.wrap (((n:Nat):Int)+1)=((n+1:Nat):Int):=bX (by unfold au;omega)
      have s2:bm rest ((n+1:Nat):Int) ((rest.length:Nat):Int)=some (rest.drop (n+1)):=fw (by omega)
      refine one rfl ?_
      simp only[f180,c1,Option.bind_some,d,cond_false,i0,fh,c2,m_,hJ,dE,h3,aA,b1,n8,o',tD,e2,cond_true,NS,dJ,iO,u_,i1,eh,jx,hin,Bool.not_false,Bool.not_true,hx,t1,qg,dm,l2,cH,n1,s1,awH,s2]
     ·have t1:(((b.toNat:Nat):Int) !=10)=true:=by
       rw[bne_iff_ne];intro h;exact rP (UInt8.toNat_inj.1 (by have:((10:UInt8).toNat:Int)=10:=rfl;omega))
      refine zero (by split<;>first|rfl|(rename_i h;simp at h;exact absurd h.1 rP)) ?_
      simp only[f180,c1,Option.bind_some,d,cond_false,i0,fh,c2,m_,hJ,dE,h3,aA,b1,n8,o',tD,e2,cond_true,NS,dJ,iO,u_,i1,eh,jx,hin,Bool.not_false,Bool.not_true,hx,t1]
theorem Ti{s r:B}{e:aw}(h:nC s=some (e,r)):e.path.length<=s.length/\e.text.length<=s.length/\r.length<s.length:=by
 unfold nC at h;cases az:dw 10 s with
 |none=>rw[az] at h;cases h
 |some q=>
  obtain⟨bW,rest⟩:=q;rw[az] at h;have hl:=(jk az).1;have hl:s.length=bW.length+1+rest.length:=by rw[hl];simp;omega
  have hm:=qo 32 4 bW;have h:gg (splitN 32 4 bW) rest=some (e,r):=h;generalize splitN 32 4 bW=ws at h hm;unfold gg at h;split at h
  ·rename_i U aZ w2;have m1:=hm aZ (by simp)
   have m2:=hm w2 (by simp)
   cases eT:U==hX<;>simp only[eT,cond_true,cond_false] at h
   ·cases e1:U==hU<;>simp only[e1,cond_true,cond_false] at h
    ·cases h
    ·simp only[Option.some.injEq,Prod.mk.injEq] at h;obtain⟨rfl,rfl⟩:=h;exact⟨by show aZ.length<=_;omega,by show w2.length<=_;omega,by omega⟩
   ·simp only[Option.some.injEq,Prod.mk.injEq] at h;obtain⟨rfl,rfl⟩:=h;exact⟨by show w2.length<=_;omega,by show 0<=_;omega,by omega⟩
  ·rename_i U aZ w2 cd;have m2:=hm w2 (by simp)
   cases e2:U==im<;>simp only[e2,cond_true,cond_false] at h
   ·cases h
   ·unfold ry at h;cases da:within (gL cd) 0 ((rest.length:Int)-1)<;>simp only[da,cond_true,cond_false] at h
    ·cases h
    ·split at h
     ·rename_i eH Z;simp only[Option.some.injEq,Prod.mk.injEq] at h;obtain⟨rfl,rfl⟩:=h;have ME:=congrArg List.length Z;simp only[List.length_drop,List.length_cons] at ME;exact⟨by show w2.length<=_;omega,by show(rest.take _).length<=_;simp;omega,by omega⟩
     ·cases h
  ·cases h
theorem alV{e:aw}(h:eN e=true)(r:B):nC (dY e++r)=some (e,r):=by
 have hw:=(Ft h).1;unfold nC;rw[QT h];show gg (splitN 32 4 (py e)) (wB e r)=_;obtain⟨n,hn,ic⟩:=GL h;have g2:=FQ n (by omega)
 have rA:splitN 32 4 (py e)=me e:=OE _ 4 (by unfold me;cases e.kind==1<;>cases e.kind==3<;>simp) hw (by unfold me;cases e.kind==1<;>cases e.kind==3<;>simp)
 rw[rA];obtain⟨p,k,m,t⟩:=e;have hn:m=n:=hn;subst hn;rcases va h with hk|hk|hk
 ·have hk:k=1:=hk;subst hk;have aq:t=[]:=Q4 h rfl;subst aq;show gg [hX,Lib.itoa (n:Int),p] r=_;unfold gg;have e2:(hX==hX)=true:=by decide
  simp only[e2,g2,cond_true]
 ·have hk:k=2:=hk;subst hk;have hb:t.length<=80:=by
   have:=PP h rfl;unfold oh at this;simp only[Bool.and_eq_true,decide_eq_true_eq] at this;exact this.2
  have aF:=FQ t.length (by omega)
  show gg [im,Lib.itoa (n:Int),p,Lib.itoa (t.length:Int)] (t++10::r)=_;unfold gg;have br:(im==im)=true:=by decide
  simp only[br,cond_true];unfold ry;have d1:(t++10::r).drop t.length=10::r:=by simp
  have d2:(t++10::r).take t.length=t:=by simp
  have hw:within (t.length:Int) 0 (((t++10::r).length:Int)-1)=true:=by
   unfold within;rw[decide_eq_true (by omega),decide_eq_true (by simp;omega)]
   rfl
  simp only[aF,hw,cond_true,Int.toNat_natCast,d1,d2,g2]
 ·have hk:k=3:=hk;subst hk;obtain⟨_,hm⟩:=Fo h rfl;have hm:(n:Int)=0:=hm;show gg [hU,p,t] r=_;unfold gg;have e1:(hU==hX)=false:=by decide
  have e2:(hU==hU)=true:=by decide
  simp only[e1,e2,cond_true,cond_false];rw[hm]
end Go.Proofs
