/- FnDiskNew: a stored root is recovered. (part 5 of 7: JkKPuSa, JkKF277, JkKF257, JkKPuSb, JkKF121, JkKPuSc, JkKF256, JkKF220, JkKPuSd, JkKF122v0, JkKF219, JkKF173, JkKF69, JkKPuSe, JkKF63v0, JkKPl, JkKFH64, JkKF120, JkKF83, JkKF226, JkKF181, JkKPuPa, JkK) Conditions: none beyond the statement. -/
import Derived.Test.YthhecoidfjkmeaaGreatDoorZFnDiskNew3
import Derived.Tactics
import Derived.Deep.RegionLaw
import Derived.Shelf.Abstract
import Derived.Test.YthhecoidfjkmeaaGreatDoorProg
import Derived.KernelRfl
import Derived.Shelf.LaysM
import Derived.Shelf.Strconv.Itoa3
import Derived.Shelf.Strings.IndexAnyAll
import Derived.Laws.RangeAny
import Derived.Lib.OthersKept
import Derived.Shelf.Small.Utf8
import Derived.Laws.Runes
import Derived.Laws.Cover4
import Derived.WalkMore
import Derived.Shelf.RegionOpenPlain
set_option maxRecDepth 100000
set_option linter.unusedVariables false
set_option linter.unusedSimpArgs false
namespace Go.Proofs
open Go.Jk
theorem fo{F bn:Type}{g:F->Option (Sum F bn)}(st:Nat->F)(n:Nat){b:bn}(h:∀i,i<n->g (st i)=some (.inl (st (i+1))))(he:g (st n)=some (.inr b)):∀k i,i+k=n->bo g (st i)=some b:=by
 intro k;induction k with
 |zero=>
  intro i hi;obtain rfl:i=n:=by omega
  exact de he
 |succ k ih=>
  intro i hi;rw[fc (h i (by omega))]
  exact ih (i+1) (by omega)
theorem aiM(k:IntKind)(x y:Int):hq k x y=hq k y x:=by unfold hq;rw[BitVec.or_comm]
def kh(x n:Int):Int:=hq .u32 (x.fdiv (2^n.toNat)) (IntKind.u32.wrap (x*2^(32-n).toNat))
def eB(n:Int):Prop:=n=2\/n=6\/n=7\/n=11\/n=13\/n=17\/n=18\/n=19\/n=22\/n=25
theorem mm(x n:Int)(h:eB n):f278 ((x,(n,())),())=some ((kh x n,()),()):=by
 rcases h with rfl|rfl|rfl|rfl|rfl|rfl|rfl|rfl|rfl|rfl<;>rfl
theorem gW(x n:Int)(h:eB n):f171 ((x,(n,())),())=some ((kh x n,()),()):=by
 have a2:et .u64 (IntKind.u64.wrap (IntKind.i64.wrap (0-2))) 31=30:=by decide
 have wP:et .u64 (IntKind.u64.wrap (IntKind.i64.wrap (0-6))) 31=26:=by decide
 have wO:et .u64 (IntKind.u64.wrap (IntKind.i64.wrap (0-7))) 31=25:=by decide
 have Lm:et .u64 (IntKind.u64.wrap (IntKind.i64.wrap (0-11))) 31=21:=by decide
 have aw7:et .u64 (IntKind.u64.wrap (IntKind.i64.wrap (0-13))) 31=19:=by decide
 have aw5:et .u64 (IntKind.u64.wrap (IntKind.i64.wrap (0-17))) 31=15:=by decide
 have aw4:et .u64 (IntKind.u64.wrap (IntKind.i64.wrap (0-18))) 31=14:=by decide
 have aw3:et .u64 (IntKind.u64.wrap (IntKind.i64.wrap (0-19))) 31=13:=by decide
 have aw2:et .u64 (IntKind.u64.wrap (IntKind.i64.wrap (0-22))) 31=10:=by decide
 have aw1:et .u64 (IntKind.u64.wrap (IntKind.i64.wrap (0-25))) 31=7:=by decide
 unfold kh;rw[aiM];rcases h with rfl|rfl|rfl|rfl|rfl|rfl|rfl|rfl|rfl|rfl<;>simp only[f171,f217,a2,wP,wO,Lm,aw7,aw5,aw4,aw3,aw2,aw1]<;>rfl
theorem ol{x:Int}(h0:0<=x)(h1:x<4294967296):IntKind.u32.wrap x=x:=by rw[IntKind.wrap_u32];omega
theorem Eg{a:Nat}(h:a<4294967296):(BitVec.ofInt IntKind.u32.bits (a:Int)).toNat=a:=by
 rw[BitVec.ofInt_natCast,BitVec.toNat_ofNat];exact Nat.mod_eq_of_lt h
theorem zf{m y k:Nat}(hy:y<2^k)(h:m*2^k+y<4294967296):hq .u32 ((m*2^k:Nat):Int) (y:Int)=((m*2^k+y:Nat):Int):=by
 unfold hq;rw[BitVec.toNat_or,Eg (by omega),Eg (by omega),<-Nat.shiftLeft_eq,<-Nat.shiftLeft_add_eq_or_of_lt hy,Nat.shiftLeft_eq,ol (by omega) (by omega)]
abbrev j4(x:Int):Prop:=0<=x/\x<=255
def wd(a b c d:Int):Int:=a*16777216+b*65536+c*256+d
def gE(w c:Int):Int:=hq .u32 (IntKind.u32.wrap (w*256)) (IntKind.u32.wrap c)
theorem xk{w c:Nat}(hw:w<16777216)(hc:c<256):gE w c=((w*256+c:Nat):Int):=by
 unfold gE;rw[ol (x:=(w:Int)*256) (by omega) (by omega),ol (x:=(c:Int)) (by omega) (by omega)]
 exact zf (k:=8) (by omega) (by omega)
theorem oD{x:Int}(h:j4 x):∃n:Nat,x=n/\n<256:=by
 obtain⟨n,rfl⟩:=Int.eq_ofNat_of_zero_le h.1;exact⟨n,rfl,by omega⟩
theorem ajJ{a b c d:Int}(ha:j4 a)(hb:j4 b)(hc:j4 c)(Z:j4 d):gE (gE (gE (gE 0 a) b) c) d=wd a b c d:=by
 obtain⟨a,rfl,qZ⟩:=oD ha;obtain⟨b,rfl,qY⟩:=oD hb;obtain⟨c,rfl,wH⟩:=oD hc;obtain⟨d,rfl,wG⟩:=oD Z;have gT:gE 0 (a:Int)=((0*256+a:Nat):Int):=xk (w:=0) (by omega) qZ
 rw[gT,xk (by omega) qY,xk (by omega) wH,xk (by omega) wG]
 unfold wd;omega
theorem ajI{a b c d:Int}(ha:j4 a)(hb:j4 b)(hc:j4 c)(Z:j4 d):
  hq .u32 (hq .u32 (hq .u32 (IntKind.u32.wrap (IntKind.u32.wrap a*16777216)) (IntKind.u32.wrap (IntKind.u32.wrap b*65536))) (IntKind.u32.wrap (IntKind.u32.wrap c*256))) (IntKind.u32.wrap d)=wd a b c d:=by
 obtain⟨a,rfl,qZ⟩:=oD ha;obtain⟨b,rfl,qY⟩:=oD hb;obtain⟨c,rfl,wH⟩:=oD hc;obtain⟨d,rfl,wG⟩:=oD Z;have w:∀{x:Nat},x<256->IntKind.u32.wrap (x:Int)=x:=fun h=>ol (by omega) (by omega)
 rw[w qZ,w qY,w wH,w wG,ol (x:=(a:Int)*16777216) (by omega) (by omega),ol (x:=(b:Int)*65536) (by omega) (by omega),ol (x:=(c:Int)*256) (by omega) (by omega)]
 have e1:hq .u32 ((a:Int)*16777216) ((b:Int)*65536)=(((a*256+b)*2^16:Nat):Int):=by
  have:=zf (m:=a) (y:=b*65536) (k:=24) (by omega) (by omega)
  rw[show((a:Int)*16777216)=((a*2^24:Nat):Int) by omega,show((b:Int)*65536)=((b*65536:Nat):Int) by omega,this];omega
 have e2:hq .u32 (((a*256+b)*2^16:Nat):Int) ((c:Int)*256)=((((a*256+b)*256+c)*2^8:Nat):Int):=by
  have:=zf (m:=a*256+b) (y:=c*256) (k:=16) (by omega) (by omega)
  rw[show((c:Int)*256)=((c*256:Nat):Int) by omega,this];omega
 have bv:=zf (m:=(a*256+b)*256+c) (y:=d) (k:=8) (by omega) (by omega)
 rw[e1,e2,bv];unfold wd;omega
def gb(b:List Int)(i:Nat):Int:=b.getD i 0
def Ko(x:Int):Int:=c4 .u32 (c4 .u32 (kh x 7) (kh x 18)) (x.fdiv 8)
def Kn(x:Int):Int:=c4 .u32 (c4 .u32 (kh x 17) (kh x 19)) (x.fdiv 1024)
def u_(w:List Int)(i:Nat):Int:=IntKind.u32.wrap (IntKind.u32.wrap (IntKind.u32.wrap (gb w (i-16)+Ko (gb w (i-15)))+gb w (i-7))+Kn (gb w (i-2)))
def ch(b:List Int):Nat->List Int
 |0=>[]
 |i+1=>ch b i++[bif decide (i<16) then wd (gb b (4*i)) (gb b (4*i+1)) (gb b (4*i+2)) (gb b (4*i+3)) else u_ (ch b i) i]
theorem nl(b:List Int):∀i,(ch b i).length=i
 |0=>rfl
 |i+1=>by simp[ch,nl b i]
theorem lJ{b:List Int}{j:Nat}(h:j<b.length):b[j]? =some (gb b j):=by
 unfold gb;rw[List.getD_eq_getElem?_getD,List.getElem?_eq_getElem h];rfl
theorem uU{b:List Int}{j:Nat}(h:j<b.length):aN b (j:Int)=some (gb b j):=by rw[bY];exact lJ h
theorem Vr(x:Int):eZ .u32 x 3=some (x.fdiv 8):=rfl
theorem Uq(x:Int):eZ .u32 x 10=some (x.fdiv 1024):=rfl
theorem aon(x:Int):la .u32 x 24=some (IntKind.u32.wrap (x*16777216)):=rfl
theorem aoo(x:Int):la .u32 x 16=some (IntKind.u32.wrap (x*65536)):=rfl
theorem u6(x:Int):la .u32 x 8=some (IntKind.u32.wrap (x*256)):=rfl
abbrev qQ(b:List Int):Prop:=b.length=64/\∀x,x∈b->j4 x
theorem qQ.pf{b:List Int}(h:qQ b){j:Nat}(hj:j<64):j4 (gb b j):=by
 refine h.2 _ ?_
 have:=lJ (b:=b) (j:=j) (by rw[h.1];exact hj)
 exact List.mem_of_getElem? this
theorem lu{i:Nat}(h:i<=64)(j:Nat)(hj:j<=4):IntKind.i64.wrap (IntKind.i64.wrap ((4:Int)*(i:Int))+(j:Int))=((4*i+j:Nat):Int):=by
 rw[cM (n:=4*(i:Int)) (by omega) (by omega),cM (by omega) (by omega)];omega
theorem sV{i:Nat}(h:i<=64):IntKind.i64.wrap ((4:Int)*(i:Int))=((4*i:Nat):Int):=by
 rw[cM (n:=4*(i:Int)) (by omega) (by omega)];omega
theorem pj{i:Nat}{q:Int}(k:Nat)(e:q=(k:Int))(h:i<=64)(hk:k<=i):IntKind.i64.wrap ((i:Int)-q)=((i-k:Nat):Int):=by
 subst e;rw[cM (by omega) (by omega)];omega
theorem wp{i:Nat}(h:i<=64):IntKind.i64.wrap ((i:Int)+1)=((i+1:Nat):Int):=b4 (by unfold ax;omega)
theorem afC(b:List Int)(h:qQ b):f276 ((b,()),())=some (((),()),(ch b 64,())):=by
 have aD:GL ((b,((),((0:Int),()))),(([]:List Int),()))=some (((),()),(ch b 16,())):=by
  refine fo (g:=Hh) (fun i=>((b,((),((i:Int),()))),(ch b i,()))) 16 (fun i hi=>?_) rfl 16 0 rfl
  have hl:decide ((i:Int)<16)=true:=by simp;omega
  have h0:=uU (b:=b) (j:=4*i) (by rw[h.1];omega)
  have h1:=uU (b:=b) (j:=4*i+1) (by rw[h.1];omega)
  have h2:=uU (b:=b) (j:=4*i+2) (by rw[h.1];omega)
  have h3:=uU (b:=b) (j:=4*i+3) (by rw[h.1];omega)
  have q1:IntKind.i64.wrap (((4*i:Nat):Int)+1)=((4*i+1:Nat):Int):=by have:=lu (i:=i) (by omega) 1 (by omega);rwa[sV (by omega)] at this
  have q2:IntKind.i64.wrap (((4*i:Nat):Int)+2)=((4*i+2:Nat):Int):=by have:=lu (i:=i) (by omega) 2 (by omega);rwa[sV (by omega)] at this
  have eC:IntKind.i64.wrap (((4*i:Nat):Int)+3)=((4*i+3:Nat):Int):=by have:=lu (i:=i) (by omega) 3 (by omega);rwa[sV (by omega)] at this
  have hw:=ajI (h.pf (j:=4*i) (by omega)) (h.pf (j:=4*i+1) (by omega)) (h.pf (j:=4*i+2) (by omega)) (h.pf (j:=4*i+3) (by omega))
  have Z:decide (i<16)=true:=by simpa using hi
  simp only[Hh,hl,cond_true,sV (i:=i) (by omega),q1,q2,eC,h0,h1,h2,h3,Option.bind_some,aon,aoo,u6,hw,wp (i:=i) (by omega)]
  rw[dt (by decide) (by rw[nl];unfold ax;simp;omega)]
  simp only[Option.bind_some,ch,Z,cond_true]
 have aF:Fj (((),((16:Int),())),(ch b 16,()))=some (((),()),(ch b 64,())):=by
  refine fo (g:=FC) (fun i=>(((),(((16+i:Nat):Int),())),(ch b (16+i),()))) 48 (fun i hi=>?_) rfl 48 0 rfl
  have hl:decide (((16+i:Nat):Int)<64)=true:=by simp;omega
  have hlen:=nl b (16+i);have Z:decide (16+i<16)=false:=by simp
  have t7:=fun x=>mm x 7 (by simp[eB]);have t18:=fun x=>mm x 18 (by simp[eB])
  have t17:=fun x=>mm x 17 (by simp[eB]);have t19:=fun x=>mm x 19 (by simp[eB])
  have i15:bk (ch b (16+i)).length (IntKind.i64.wrap (((16+i:Nat):Int)-15))=some (16+i-15):=by rw[pj (i:=16+i) (q:=15) 15 rfl (by omega) (by omega)];exact fO (by rw[hlen];omega)
  have i2:bk (ch b (16+i)).length (IntKind.i64.wrap (((16+i:Nat):Int)-2))=some (16+i-2):=by rw[pj (i:=16+i) (q:=2) 2 rfl (by omega) (by omega)];exact fO (by rw[hlen];omega)
  have i16:bk (ch b (16+i)).length (IntKind.i64.wrap (((16+i:Nat):Int)-16))=some (16+i-16):=by rw[pj (i:=16+i) (q:=16) 16 rfl (by omega) (by omega)];exact fO (by rw[hlen];omega)
  have i7:bk (ch b (16+i)).length (IntKind.i64.wrap (((16+i:Nat):Int)-7))=some (16+i-7):=by rw[pj (i:=16+i) (q:=7) 7 rfl (by omega) (by omega)];exact fO (by rw[hlen];omega)
  have g15:=lJ (b:=ch b (16+i)) (j:=16+i-15) (by rw[hlen];omega)
  have g2:=lJ (b:=ch b (16+i)) (j:=16+i-2) (by rw[hlen];omega)
  have g16:=lJ (b:=ch b (16+i)) (j:=16+i-16) (by rw[hlen];omega)
  have g7:=lJ (b:=ch b (16+i)) (j:=16+i-7) (by rw[hlen];omega)
  simp only[FC,hl,cond_true,i15,i2,i16,i7,g15,g2,g16,g7,Option.bind_some,t7,t18,t17,t19,Vr,Uq,wp (i:=16+i) (by omega)]
  rw[dt (by decide) (by rw[hlen];unfold ax;simp;omega)]
  have hs:ch b (16+(i+1))=ch b (16+i)++[u_ (ch b (16+i)) (16+i)]:=by
   show ch b ((16+i)+1)=_;simp only[ch,Z,cond_false]
  simp only[Option.bind_some,hs,u_,Ko,Kn];rfl
 have hm:jv 4 (0:Int) (64:Int) (0:Int)=some ([]:List Int):=rfl;simp only[f276,hm,Option.bind_some,aD,aF]
abbrev i277:Shape:=⟨[],[],2⟩
abbrev VF:Shape:=⟨[a_ 0 3000000],[a8 3000000 .u32 0 0],2⟩
noncomputable def f277(a:i277.F):Option VF.F:=
 some (((),()),([(1116352408:Int),(1899447441:Int),(3049323471:Int),(3921009573:Int),(961987163:Int),(1508970993:Int),(2453635748:Int),(2870763221:Int),(3624381080:Int),(310598401:Int),(607225278:Int),(1426881987:Int),(1925078388:Int),(2162078206:Int),(2614888103:Int),(3248222580:Int),(3835390401:Int),(4022224774:Int),(264347078:Int),(604807628:Int),(770255983:Int),(1249150122:Int),(1555081692:Int),(1996064986:Int),(2554220882:Int),(2821834349:Int),(2952996808:Int),(3210313671:Int),(3336571891:Int),(3584528711:Int),(113926993:Int),(338241895:Int),(666307205:Int),(773529912:Int),(1294757372:Int),(1396182291:Int),(1695183700:Int),(1986661051:Int),(2177026350:Int),(2456956037:Int),(2730485921:Int),(2820302411:Int),(3259730800:Int),(3345764771:Int),(3516065817:Int),(3600352804:Int),(4094571909:Int),(275423344:Int),(430227734:Int),(506948616:Int),(659060556:Int),(883997877:Int),(958139571:Int),(1322822218:Int),(1537002063:Int),(1747873779:Int),(1955562222:Int),(2024104815:Int),(2227730452:Int),(2361852424:Int),(2428436474:Int),(2756734187:Int),(3204031479:Int),(3329325298:Int)]:List Int),())
noncomputable def X2:aB:=aG ad Tryz.f277 i277 VF [] f277
theorem apy:ay O 277 X2:=aJ g0 Tryz.func277 (by kernel_rfl) af (fun y=>by kernel_rfl) fun a=>by kernel_rfl
noncomputable abbrev ar5:a7:=[(276,X3),(277,X2),(278,JF)]
theorem B1:aQ O (aY ad ar5):=aV ⟨apz,apy,Vb,⟨⟩⟩
abbrev wW:Shape:=⟨[aK 0 .u32,a_ 5 3000320,a_ 6 3000384,a_ 7 3000448,ag 8,(11,.am (.d (.int .u32))),(12,.am (.d (.int .u32))),(13,.am (.d (.int .u32))),ag 14],[a8 3000320 .u32 5 0,a8 3000384 .u32 6 0,a8 3000448 .u32 7 0],155⟩
abbrev Dn:List aO:=[(.exit 2,⟨[aK 0 .u32,a_ 5 3000320,a_ 6 3000384,a_ 7 3000448,ag 8,(11,.am (.d (.int .u32))),(12,.am (.d (.int .u32))),(13,.am (.d (.int .u32)))],[a8 3000320 .u32 5 0,a8 3000384 .u32 6 0,a8 3000448 .u32 7 0],155⟩)]
noncomputable def MO(y:wW.F):bD wW Dn:=
 bif(decide (y.1.2.2.2.2.2.2.2.2.1>(0:Int))) then
(bk y.2.2.2.1.length (IntKind.i64.wrap (y.1.2.2.2.2.2.2.2.2.1-(1:Int)))).bind fun a=>
(y.2.2.2.1[a]?).bind fun b=>
(bk y.2.2.2.1.length y.1.2.2.2.2.2.2.2.2.1).bind fun c=>
((y.2.2.2.1[c]?).bind fun q=>some b).bind fun d=>
 some (.inl ((y.1.1,(),(),(),y.1.2.2.2.2.1,y.1.2.2.2.2.2.1,y.1.2.2.2.2.2.2.1,y.1.2.2.2.2.2.2.2.1,(IntKind.i64.wrap (y.1.2.2.2.2.2.2.2.2.1-(1:Int))),()),y.2.1,y.2.2.1,(y.2.2.2.1.set c d),()))
else
 some (.inr ((y.1.1,(),(),(),y.1.2.2.2.2.1,y.1.2.2.2.2.2.1,y.1.2.2.2.2.2.2.1,y.1.2.2.2.2.2.2.2.1,()),y.2.1,y.2.2.1,y.2.2.2.1,()))
noncomputable def Do:wW.F->Option (aA Dn):=bo MO
theorem ac7:aT O (an (cN (an (codeOf Tryz.f257) 1 250)) 500 1025274) (aU wW Dn Do):=bE B1 (by kernel_rfl) af fun y=>by kernel_rfl
abbrev xW:Shape:=⟨[aK 0 .u32,a_ 5 3000320,a_ 6 3000384,a_ 7 3000448,ag 8],[a8 3000320 .u32 5 0,a8 3000384 .u32 6 0,a8 3000448 .u32 7 0],155⟩
abbrev EV:List aO:=[(.exit 0,⟨[aK 0 .u32,a_ 7 3000448],[a8 3000448 .u32 7 0],155⟩)]
noncomputable def FD(y:xW.F):bD xW EV:=
 bif(decide (y.1.2.2.2.2.1<(64:Int))) then
(bk y.2.2.2.1.length (4:Int)).bind fun a=>
(y.2.2.2.1[a]?).bind fun b=>
(f278 ((b,(6:Int),()),())).bind fun c=>
(bk y.2.2.2.1.length (4:Int)).bind fun d=>
(y.2.2.2.1[d]?).bind fun e=>
(f278 ((e,(11:Int),()),())).bind fun f=>
(bk y.2.2.2.1.length (4:Int)).bind fun g=>
(y.2.2.2.1[g]?).bind fun h=>
(f278 ((h,(25:Int),()),())).bind fun i=>
(bk y.2.2.2.1.length (4:Int)).bind fun j=>
(y.2.2.2.1[j]?).bind fun k=>
(bk y.2.2.2.1.length (5:Int)).bind fun l=>
(y.2.2.2.1[l]?).bind fun m=>
(bk y.2.2.2.1.length (4:Int)).bind fun n=>
(y.2.2.2.1[n]?).bind fun B=>
(bk y.2.2.2.1.length (6:Int)).bind fun p=>
(y.2.2.2.1[p]?).bind fun r=>
(bk y.2.2.2.1.length (7:Int)).bind fun s=>
(y.2.2.2.1[s]?).bind fun t=>
(bk y.2.2.1.length y.1.2.2.2.2.1).bind fun u=>
(y.2.2.1[u]?).bind fun v=>
(bk y.2.1.length y.1.2.2.2.2.1).bind fun w=>
(y.2.1[w]?).bind fun x=>
(bk y.2.2.2.1.length (0:Int)).bind fun z=>
(y.2.2.2.1[z]?).bind fun A=>
(f278 ((A,(2:Int),()),())).bind fun bn=>
(bk y.2.2.2.1.length (0:Int)).bind fun C=>
(y.2.2.2.1[C]?).bind fun be=>
(f278 ((be,(13:Int),()),())).bind fun E=>
(bk y.2.2.2.1.length (0:Int)).bind fun aR=>
(y.2.2.2.1[aR]?).bind fun G=>
(f278 ((G,(22:Int),()),())).bind fun H=>
(bk y.2.2.2.1.length (0:Int)).bind fun I=>
(y.2.2.2.1[I]?).bind fun eR=>
(bk y.2.2.2.1.length (1:Int)).bind fun K=>
(y.2.2.2.1[K]?).bind fun L=>
(bk y.2.2.2.1.length (0:Int)).bind fun jc=>
(y.2.2.2.1[jc]?).bind fun N=>
(bk y.2.2.2.1.length (2:Int)).bind fun azu=>
(y.2.2.2.1[azu]?).bind fun P=>
(bk y.2.2.2.1.length (1:Int)).bind fun Q=>
(y.2.2.2.1[Q]?).bind fun R=>
(bk y.2.2.2.1.length (2:Int)).bind fun S=>
(y.2.2.2.1[S]?).bind fun T=>
(Do ((y.1.1,(),(),(),y.1.2.2.2.2.1,(IntKind.u32.wrap ((IntKind.u32.wrap ((IntKind.u32.wrap ((IntKind.u32.wrap (t+(c4 .u32 (c4 .u32 c.1.1 f.1.1) i.1.1)))+(c4 .u32 (et .u32 k m) (et .u32 (c4 .u32 4294967295 B) r))))+v))+x)),(c4 .u32 (c4 .u32 bn.1.1 E.1.1) H.1.1),(c4 .u32 (c4 .u32 (et .u32 eR L) (et .u32 N P)) (et .u32 R T)),(7:Int),()),y.2.1,y.2.2.1,y.2.2.2.1,())).bind fun dL=>
(bk dL.2.2.2.1.length (4:Int)).bind fun V=>
(dL.2.2.2.1[V]?).bind fun W=>
(bk dL.2.2.2.1.length (4:Int)).bind fun X=>
((dL.2.2.2.1[X]?).bind fun q=>some (IntKind.u32.wrap (W+dL.1.2.2.2.2.2.1))).bind fun Mu=>
(bk (dL.2.2.2.1.set X Mu).length (0:Int)).bind fun a0=>
(((dL.2.2.2.1.set X Mu)[a0]?).bind fun q=>some (IntKind.u32.wrap ((IntKind.u32.wrap (dL.1.2.2.2.2.2.1+dL.1.2.2.2.2.2.2.1))+dL.1.2.2.2.2.2.2.2.1))).bind fun a1=>
 some (.inl ((dL.1.1,(),(),(),(IntKind.i64.wrap (dL.1.2.2.2.2.1+(1:Int))),()),dL.2.1,dL.2.2.1,((dL.2.2.2.1.set X Mu).set a0 a1),()))
else
 some (.inr ((y.1.1,(),()),y.2.2.2.1,()))
noncomputable def Fk:xW.F->Option (aA EV):=bo FD
theorem ail:aT O (an (codeOf Tryz.f257) 1 250) (aU xW EV Fk):=bE B1 (by kernel_rfl) (a6 ac7 af) fun y=>by kernel_rfl
abbrev xo:Shape:=⟨[aK 0 .u32,a_ 7 3000448,a_ 15 3000960,ag 16],[a8 3000448 .u32 7 0,a8 3000960 .u32 15 0],155⟩
abbrev D1:List aO:=[(.exit 4,⟨[a_ 15 3000960],[a8 3000960 .u32 15 0],155⟩)]
noncomputable def O9(y:xo.F):bD xo D1:=
 bif(decide (y.1.2.2.2.1<(8:Int))) then
(aN y.1.1 y.1.2.2.2.1).bind fun a=>
(bk y.2.1.length y.1.2.2.2.1).bind fun b=>
(y.2.1[b]?).bind fun c=>
(cj 4 y.2.2.1 ([(IntKind.u32.wrap (a+c))]:List Int)).bind fun d=>
 some (.inl ((y.1.1,(),(),(IntKind.i64.wrap (y.1.2.2.2.1+(1:Int))),()),y.2.1,d,()))
else
 some (.inr (((),()),y.2.2.1,()))
noncomputable def El:xo.F->Option (aA D1):=bo O9
theorem agj:aT O (an (codeOf Tryz.f257) 1 1018) (aU xo D1 El):=bE B1 (by kernel_rfl) af fun y=>by kernel_rfl
abbrev i257:Shape:=⟨[aK 0 .u32,aK 1 .u8],[],155⟩
abbrev VM:Shape:=⟨[a_ 4 3000256],[a8 3000256 .u32 4 0],155⟩
noncomputable def f257(a:i257.F):Option VM.F:=
(f276 ((a.1.2.1,()),())).bind fun b=>
(f277 ((),())).bind fun c=>
(cj 4 ([]:List Int) a.1.1).bind fun d=>
(Fk ((a.1.1,(),(),(),(0:Int),()),b.2.1,c.2.1,d,())).bind fun e=>
(El ((e.1.1,(),(),(0:Int),()),e.2.1,([]:List Int),())).bind fun f=>
 some (((),()),f.2.1,())
noncomputable def X_:aB:=aG ad Tryz.f257 i257 VM [] f257
theorem apG:ay O 257 X_:=aJ B1 Tryz.func257 (by kernel_rfl) (a6 ail (a6 agj af)) (fun y=>by kernel_rfl) fun a=>by kernel_rfl
structure cd where
 (a b c d e f g h:Int)
def cd.list(s:cd):List Int:=[s.a,s.b,s.c,s.d,s.e,s.f,s.g,s.h]
def Lk(e:Int):Int:=c4 .u32 (c4 .u32 (kh e 6) (kh e 11)) (kh e 25)
def Ll(a:Int):Int:=c4 .u32 (c4 .u32 (kh a 2) (kh a 13)) (kh a 22)
def Lj(e f g:Int):Int:=c4 .u32 (et .u32 e f) (et .u32 (c4 .u32 4294967295 e) g)
def Ks(a b c:Int):Int:=c4 .u32 (c4 .u32 (et .u32 a b) (et .u32 a c)) (et .u32 b c)
def Cg(s:cd)(k w:Int):Int:=IntKind.u32.wrap (IntKind.u32.wrap (IntKind.u32.wrap (IntKind.u32.wrap (s.h+Lk s.e)+Lj s.e s.f s.g)+k)+w)
def u7(k w:Int)(s:cd):cd:=⟨IntKind.u32.wrap (Cg s k w+IntKind.u32.wrap (Ll s.a+Ks s.a s.b s.c)),s.a,s.b,s.c,IntKind.u32.wrap (s.d+Cg s k w),s.e,s.f,s.g⟩
def l2(h:cd)(w:List Int):Nat->cd
 |0=>h
 |i+1=>u7 (gb h_ i) (gb w i) (l2 h w i)
def BS(h s:cd):cd:=⟨IntKind.u32.wrap (h.a+s.a),IntKind.u32.wrap (h.b+s.b),IntKind.u32.wrap (h.c+s.c),IntKind.u32.wrap (h.d+s.d),IntKind.u32.wrap (h.e+s.e),IntKind.u32.wrap (h.f+s.f),IntKind.u32.wrap (h.g+s.g),IntKind.u32.wrap (h.h+s.h)⟩
def vo(h:cd)(b:List Int):cd:=BS h (l2 h (ch b 64) 64)
theorem ajH(x y z:Int):IntKind.u32.wrap (IntKind.u32.wrap (x+y)+z)=IntKind.u32.wrap (x+IntKind.u32.wrap (y+z)):=by
 simp only[IntKind.wrap_u32];omega
theorem cd.i0(s:cd):bk s.list.length 0=some 0:=rfl
theorem cd.i1(s:cd):bk s.list.length 1=some 1:=rfl
theorem cd.i2(s:cd):bk s.list.length 2=some 2:=rfl
theorem cd.i4(s:cd):bk s.list.length 4=some 4:=rfl
theorem cd.i5(s:cd):bk s.list.length 5=some 5:=rfl
theorem cd.i6(s:cd):bk s.list.length 6=some 6:=rfl
theorem cd.i7(s:cd):bk s.list.length 7=some 7:=rfl
theorem cd.g0(s:cd):s.list[0]? =some s.a:=rfl
theorem cd.g1(s:cd):s.list[1]? =some s.b:=rfl
theorem cd.g2(s:cd):s.list[2]? =some s.c:=rfl
theorem cd.g4(s:cd):s.list[4]? =some s.e:=rfl
theorem cd.g5(s:cd):s.list[5]? =some s.f:=rfl
theorem cd.g6(s:cd):s.list[6]? =some s.g:=rfl
theorem cd.g7(s:cd):s.list[7]? =some s.h:=rfl
def fW(s:cd):Nat->List Int
 |0=>s.list
 |1=>[s.a,s.b,s.c,s.d,s.e,s.f,s.g,s.g]
 |2=>[s.a,s.b,s.c,s.d,s.e,s.f,s.f,s.g]
 |3=>[s.a,s.b,s.c,s.d,s.e,s.e,s.f,s.g]
 |4=>[s.a,s.b,s.c,s.d,s.d,s.e,s.f,s.g]
 |5=>[s.a,s.b,s.c,s.c,s.d,s.e,s.f,s.g]
 |6=>[s.a,s.b,s.b,s.c,s.d,s.e,s.f,s.g]
 |_=>[s.a,s.a,s.b,s.c,s.d,s.e,s.f,s.g]
theorem Gz:h_.length=64:=by decide
theorem afE(h:cd)(b:List Int)(hb:qQ b):f257 ((h.list,(b,())),())=some (((),()),((vo h b).list,())):=by
 have ly:=afC b hb;have t2:=fun x=>mm x 2 (by simp[eB]);have t6:=fun x=>mm x 6 (by simp[eB]);have t11:=fun x=>mm x 11 (by simp[eB])
 have t13:=fun x=>mm x 13 (by simp[eB]);have t22:=fun x=>mm x 22 (by simp[eB]);have t25:=fun x=>mm x 25 (by simp[eB])
 have fL:∀(q:List Int) (i ja jC p3:Int) (w:List Int) (s:cd),Do ((q,((),((),((),(i,(ja,(jC,(p3,((7:Int),()))))))))),(w,(h_,(s.list,()))))=
   some ((q,((),((),((),(i,(ja,(jC,(p3,())))))))),(w,(h_,(([s.a,s.a,s.b,s.c,s.d,s.e,s.f,s.g]:List Int),())))):=by
  intro q i ja jC p3 w s;refine fo (g:=MO) (fun j=>((q,((),((),((),(i,(ja,(jC,(p3,(((7-j:Nat):Int),()))))))))),(w,(h_,(fW s j,()))))) 7 (fun j hj=>?_) rfl 7 0 rfl
  have:j=0\/j=1\/j=2\/j=3\/j=4\/j=5\/j=6:=by omega
  rcases this with rfl|rfl|rfl|rfl|rfl|rfl|rfl<;>rfl
 have bR:f277 ((),())=some (((),()),(h_,())):=rfl;have hc:cj 4 ([]:List Int) h.list=some h.list:=rfl;have aD:Fk ((h.list,((),((),((),((0:Int),()))))),(ch b 64,(h_,(h.list,()))))=some ((h.list,((),())),((l2 h (ch b 64) 64).list,())):=by
  refine fo (g:=FD) (fun i=>((h.list,((),((),((),((i:Int),()))))),(ch b 64,(h_,((l2 h (ch b 64) i).list,()))))) 64 (fun i hi=>?_) rfl 64 0 rfl
  have hl:decide ((i:Int)<64)=true:=by simp;omega
  have i1:bk h_.length (i:Int)=some i:=fO (by rw[Gz];exact hi)
  have g1:=lJ (b:=h_) (j:=i) (by rw[Gz];exact hi)
  have i2:bk (ch b 64).length (i:Int)=some i:=fO (by rw[nl];exact hi)
  have g2:=lJ (b:=ch b 64) (j:=i) (by rw[nl];exact hi)
  have hr:l2 h (ch b 64) (i+1)=u7 (gb h_ i) (gb (ch b 64) i) (l2 h (ch b 64) i):=rfl;generalize l2 h (ch b 64) i=s at hr ⊢;simp only[FD,hl,cond_true,cd.i0,cd.i1,cd.i2,cd.i4,cd.i5,cd.i6,cd.i7,cd.g0,cd.g1,cd.g2,cd.g4,cd.g5,cd.g6,cd.g7,i1,g1,i2,g2,Option.bind_some,t2,t6,t11,t13,t22,t25,fL,wp (i:=i) (by omega),hr]
  have e:∀x y:Int,bk ([s.a,s.a,s.b,s.c,s.d,s.e,s.f,s.g]:List Int).length 4=some 4/\([s.a,s.a,s.b,s.c,s.d,s.e,s.f,s.g]:List Int)[4]? =some s.d/\
   bk (([s.a,s.a,s.b,s.c,s.d,s.e,s.f,s.g]:List Int).set 4 x).length 0=some 0/\(([s.a,s.a,s.b,s.c,s.d,s.e,s.f,s.g]:List Int).set 4 x)[0]? =some s.a:=fun x y=>⟨rfl,rfl,rfl,rfl⟩
  simp only[(e 0 0).1,(e 0 0).2.1,(e _ 0).2.2.1,(e _ 0).2.2.2,Option.bind_some,u7,Cg,Lk,Ll,Lj,Ks,ajH];rfl
 have aF:El ((h.list,((),((),((0:Int),())))),((l2 h (ch b 64) 64).list,(([]:List Int),())))=some (((),()),((vo h b).list,())):=by
  unfold vo;generalize l2 h (ch b 64) 64=s;refine fo (g:=O9) (fun i=>((h.list,((),((),((i:Int),())))),(s.list,((BS h s).list.take i,())))) 8 (fun i hi=>?_) rfl 8 0 rfl
  have:i=0\/i=1\/i=2\/i=3\/i=4\/i=5\/i=6\/i=7:=by omega
  rcases this with rfl|rfl|rfl|rfl|rfl|rfl|rfl|rfl<;>rfl
 simp only[f257,ly,bR,hc,Option.bind_some,aD,aF]
noncomputable abbrev as9:a7:=[(171,YM)]
theorem sS:aQ O (aY ad as9):=aV ⟨z171,⟨⟩⟩
abbrev w8:Shape:=⟨[aK 1 .u8,eu 2 2 .u32,eu 4 4 .u32,eu 5 5 .u32,ag 6,ag 27,aK 36 .u8,ag 37,ag 38],[(2,.row .u32,.same),(4,.row .u32,.same),(5,.row .u32,.same)],208⟩
abbrev DG:List aO:=[(.exit 2,⟨[aK 1 .u8,eu 2 2 .u32,eu 4 4 .u32,eu 5 5 .u32,ag 27],[(2,.row .u32,.same),(4,.row .u32,.same),(5,.row .u32,.same)],208⟩)]
noncomputable def pu(y:w8.F):bD w8 DG:=
 bif(decide (y.1.2.2.2.2.2.2.2.2.1<y.1.2.2.2.2.2.2.2.1)) then
(aN y.1.2.2.2.2.2.2.1 y.1.2.2.2.2.2.2.2.2.1).bind fun a=>
((long 64 y.2.2.2.1).bind fun q=>bk q.length y.1.2.2.2.2.1).bind fun b=>
(y.2.2.2.1[b]?).bind fun c=>
(la .u32 c (8:Int)).bind fun d=>
((long 64 y.2.2.2.1).bind fun q=>bk q.length y.1.2.2.2.2.1).bind fun e=>
((y.2.2.2.1[e]?).bind fun q=>some (hq .u32 d (IntKind.u32.wrap a))).bind fun f=>
 some (.inl ((y.1.1,(),(),(),y.1.2.2.2.2.1,y.1.2.2.2.2.2.1,y.1.2.2.2.2.2.2.1,y.1.2.2.2.2.2.2.2.1,(IntKind.i64.wrap (y.1.2.2.2.2.2.2.2.2.1+(1:Int))),()),y.2.1,y.2.2.1,(y.2.2.2.1.set e f),()))
else
 some (.inr ((y.1.1,(),(),(),y.1.2.2.2.2.2.1,()),y.2.1,y.2.2.1,y.2.2.2.1,()))
noncomputable def DO:w8.F->Option (aA DG):=bo pu
theorem aeQ:aT O (an (cN (an (codeOf Tryz.f121) 1 58)) 116 14950) (aU w8 DG DO):=bE sS (by kernel_rfl) af fun y=>by kernel_rfl
abbrev y8:Shape:=⟨[aK 1 .u8,eu 2 2 .u32,eu 4 4 .u32,eu 5 5 .u32,ag 27],[(2,.row .u32,.same),(4,.row .u32,.same),(5,.row .u32,.same)],208⟩
abbrev Gs:List aO:=[(.exit 0,⟨[eu 2 2 .u32,eu 4 4 .u32,eu 5 5 .u32],[(2,.row .u32,.same),(4,.row .u32,.same),(5,.row .u32,.same)],208⟩)]
noncomputable def Hp(y:y8.F):bD y8 Gs:=
 bif(decide (y.1.2.2.2.2.1<(16:Int))) then
(bu y.1.1 (IntKind.i64.wrap ((4:Int)*y.1.2.2.2.2.1)) (IntKind.i64.wrap ((IntKind.i64.wrap ((4:Int)*y.1.2.2.2.2.1))+(4:Int)))).bind fun a=>
(DO ((y.1.1,(),(),(),y.1.2.2.2.2.1,y.1.2.2.2.2.1,a,(a.length:Int),(0:Int),()),y.2.1,y.2.2.1,y.2.2.2.1,())).bind fun b=>
 some (.inl ((b.1.1,(),(),(),(IntKind.i64.wrap (b.1.2.2.2.2.1+(1:Int))),()),b.2.1,b.2.2.1,b.2.2.2.1,()))
else
 some (.inr (((),(),(),()),y.2.1,y.2.2.1,y.2.2.2.1,()))
noncomputable def G5:y8.F->Option (aA Gs):=bo Hp
theorem akX:aT O (an (codeOf Tryz.f121) 1 58) (aU y8 Gs G5):=bE sS (by kernel_rfl) (a6 aeQ af) fun y=>by kernel_rfl
abbrev x7:Shape:=⟨[eu 2 2 .u32,eu 4 4 .u32,eu 5 5 .u32,ag 9],[(2,.row .u32,.same),(4,.row .u32,.same),(5,.row .u32,.same)],208⟩
abbrev E4:List aO:=[(.exit 4,⟨[eu 2 2 .u32,eu 4 4 .u32,eu 5 5 .u32],[(2,.row .u32,.same),(4,.row .u32,.same),(5,.row .u32,.same)],208⟩)]
noncomputable def FG(y:x7.F):bD x7 E4:=
 bif(decide (y.1.2.2.2.1<(64:Int))) then
((long 64 y.2.2.2.1).bind fun q=>bk q.length (IntKind.i64.wrap (y.1.2.2.2.1-(15:Int)))).bind fun a=>
(y.2.2.2.1[a]?).bind fun b=>
(f171 ((b,(7:Int),()),())).bind fun c=>
((long 64 y.2.2.2.1).bind fun q=>bk q.length (IntKind.i64.wrap (y.1.2.2.2.1-(15:Int)))).bind fun d=>
(y.2.2.2.1[d]?).bind fun e=>
(f171 ((e,(18:Int),()),())).bind fun f=>
((long 64 y.2.2.2.1).bind fun q=>bk q.length (IntKind.i64.wrap (y.1.2.2.2.1-(15:Int)))).bind fun g=>
(y.2.2.2.1[g]?).bind fun h=>
(eZ .u32 h (3:Int)).bind fun i=>
((long 64 y.2.2.2.1).bind fun q=>bk q.length (IntKind.i64.wrap (y.1.2.2.2.1-(2:Int)))).bind fun j=>
(y.2.2.2.1[j]?).bind fun k=>
(f171 ((k,(17:Int),()),())).bind fun l=>
((long 64 y.2.2.2.1).bind fun q=>bk q.length (IntKind.i64.wrap (y.1.2.2.2.1-(2:Int)))).bind fun m=>
(y.2.2.2.1[m]?).bind fun n=>
(f171 ((n,(19:Int),()),())).bind fun B=>
((long 64 y.2.2.2.1).bind fun q=>bk q.length (IntKind.i64.wrap (y.1.2.2.2.1-(2:Int)))).bind fun p=>
(y.2.2.2.1[p]?).bind fun r=>
(eZ .u32 r (10:Int)).bind fun s=>
((long 64 y.2.2.2.1).bind fun q=>bk q.length (IntKind.i64.wrap (y.1.2.2.2.1-(16:Int)))).bind fun t=>
(y.2.2.2.1[t]?).bind fun u=>
((long 64 y.2.2.2.1).bind fun q=>bk q.length (IntKind.i64.wrap (y.1.2.2.2.1-(7:Int)))).bind fun v=>
(y.2.2.2.1[v]?).bind fun w=>
((long 64 y.2.2.2.1).bind fun q=>bk q.length y.1.2.2.2.1).bind fun x=>
((y.2.2.2.1[x]?).bind fun q=>some (IntKind.u32.wrap ((IntKind.u32.wrap ((IntKind.u32.wrap (u+(c4 .u32 (c4 .u32 c.1.1 f.1.1) i)))+w))+(c4 .u32 (c4 .u32 l.1.1 B.1.1) s)))).bind fun z=>
 some (.inl (((),(),(),(IntKind.i64.wrap (y.1.2.2.2.1+(1:Int))),()),y.2.1,y.2.2.1,(y.2.2.2.1.set x z),()))
else
 some (.inr (((),(),(),()),y.2.1,y.2.2.1,y.2.2.2.1,()))
noncomputable def Ft:x7.F->Option (aA E4):=bo FG
theorem aiE:aT O (an (codeOf Tryz.f121) 1 122) (aU x7 E4 Ft):=bE sS (by kernel_rfl) af fun y=>by kernel_rfl
abbrev xw:Shape:=⟨[eu 2 2 .u32,eu 4 4 .u32,eu 5 5 .u32,(12,.am (.d (.int .u32))),(13,.am (.d (.int .u32))),(14,.am (.d (.int .u32))),(15,.am (.d (.int .u32))),(16,.am (.d (.int .u32))),(17,.am (.d (.int .u32))),(18,.am (.d (.int .u32))),(19,.am (.d (.int .u32))),ag 122],[(2,.row .u32,.same),(4,.row .u32,.same),(5,.row .u32,.same)],208⟩
abbrev D8:List aO:=[(.exit 6,⟨[eu 2 2 .u32,eu 4 4 .u32,(12,.am (.d (.int .u32))),(13,.am (.d (.int .u32))),(14,.am (.d (.int .u32))),(15,.am (.d (.int .u32))),(16,.am (.d (.int .u32))),(17,.am (.d (.int .u32))),(18,.am (.d (.int .u32))),(19,.am (.d (.int .u32)))],[(2,.row .u32,.same),(4,.row .u32,.same)],208⟩)]
noncomputable def xJ(y:xw.F):bD xw D8:=
 bif(decide (y.1.2.2.2.2.2.2.2.2.2.2.2.1<(64:Int))) then
(f171 ((y.1.2.2.2.2.2.2.2.1,(6:Int),()),())).bind fun a=>
(f171 ((y.1.2.2.2.2.2.2.2.1,(11:Int),()),())).bind fun b=>
(f171 ((y.1.2.2.2.2.2.2.2.1,(25:Int),()),())).bind fun c=>
(aN h_ y.1.2.2.2.2.2.2.2.2.2.2.2.1).bind fun d=>
((long 64 y.2.2.2.1).bind fun q=>bk q.length y.1.2.2.2.2.2.2.2.2.2.2.2.1).bind fun e=>
(y.2.2.2.1[e]?).bind fun f=>
(f171 ((y.1.2.2.2.1,(2:Int),()),())).bind fun g=>
(f171 ((y.1.2.2.2.1,(13:Int),()),())).bind fun h=>
(f171 ((y.1.2.2.2.1,(22:Int),()),())).bind fun i=>
 some (.inl (((),(),(),(IntKind.u32.wrap ((IntKind.u32.wrap ((IntKind.u32.wrap ((IntKind.u32.wrap ((IntKind.u32.wrap (y.1.2.2.2.2.2.2.2.2.2.2.1+(c4 .u32 (c4 .u32 a.1.1 b.1.1) c.1.1)))+(c4 .u32 (et .u32 y.1.2.2.2.2.2.2.2.1 y.1.2.2.2.2.2.2.2.2.1) (et .u32 (c4 .u32 4294967295 y.1.2.2.2.2.2.2.2.1) y.1.2.2.2.2.2.2.2.2.2.1))))+d))+f))+(IntKind.u32.wrap ((c4 .u32 (c4 .u32 g.1.1 h.1.1) i.1.1)+(c4 .u32 (c4 .u32 (et .u32 y.1.2.2.2.1 y.1.2.2.2.2.1) (et .u32 y.1.2.2.2.1 y.1.2.2.2.2.2.1)) (et .u32 y.1.2.2.2.2.1 y.1.2.2.2.2.2.1)))))),y.1.2.2.2.1,y.1.2.2.2.2.1,y.1.2.2.2.2.2.1,(IntKind.u32.wrap (y.1.2.2.2.2.2.2.1+(IntKind.u32.wrap ((IntKind.u32.wrap ((IntKind.u32.wrap ((IntKind.u32.wrap (y.1.2.2.2.2.2.2.2.2.2.2.1+(c4 .u32 (c4 .u32 a.1.1 b.1.1) c.1.1)))+(c4 .u32 (et .u32 y.1.2.2.2.2.2.2.2.1 y.1.2.2.2.2.2.2.2.2.1) (et .u32 (c4 .u32 4294967295 y.1.2.2.2.2.2.2.2.1) y.1.2.2.2.2.2.2.2.2.2.1))))+d))+f)))),y.1.2.2.2.2.2.2.2.1,y.1.2.2.2.2.2.2.2.2.1,y.1.2.2.2.2.2.2.2.2.2.1,(IntKind.i64.wrap (y.1.2.2.2.2.2.2.2.2.2.2.2.1+(1:Int))),()),y.2.1,y.2.2.1,y.2.2.2.1,()))
else
 some (.inr (((),(),y.1.2.2.2.1,y.1.2.2.2.2.1,y.1.2.2.2.2.2.1,y.1.2.2.2.2.2.2.1,y.1.2.2.2.2.2.2.2.1,y.1.2.2.2.2.2.2.2.2.1,y.1.2.2.2.2.2.2.2.2.2.1,y.1.2.2.2.2.2.2.2.2.2.2.1,()),y.2.1,y.2.2.1,()))
noncomputable def Ep:xw.F->Option (aA D8):=bo xJ
theorem agA:aT O (an (codeOf Tryz.f121) 1 1018) (aU xw D8 Ep):=bE sS (by kernel_rfl) af fun y=>by kernel_rfl
abbrev xv:Shape:=⟨[eu 2 2 .u32,eu 4 4 .u32,b5 195 [.d (.int .u32),.d (.int .u32),.d (.int .u32),.d (.int .u32),.d (.int .u32),.d (.int .u32),.d (.int .u32),.d (.int .u32)],ag 196],[(2,.row .u32,.same),(4,.row .u32,.same)],208⟩
abbrev D7:List aO:=[(.exit 8,⟨[eu 2 2 .u32,eu 4 4 .u32],[(2,.row .u32,.same),(4,.row .u32,.same)],208⟩)]
noncomputable def O'(y:xv.F):bD xv D7:=
 bif(decide (y.1.2.2.2.1<(8:Int))) then
(aN ([y.1.2.2.1.1,y.1.2.2.1.2.1,y.1.2.2.1.2.2.1,y.1.2.2.1.2.2.2.1,y.1.2.2.1.2.2.2.2.1,y.1.2.2.1.2.2.2.2.2.1,y.1.2.2.1.2.2.2.2.2.2.1,y.1.2.2.1.2.2.2.2.2.2.2.1]:List Int) y.1.2.2.2.1).bind fun a=>
((long 8 y.2.1).bind fun q=>bk q.length y.1.2.2.2.1).bind fun b=>
(y.2.1[b]?).bind fun c=>
((long 8 y.2.1).bind fun q=>bk q.length y.1.2.2.2.1).bind fun d=>
((y.2.1[d]?).bind fun q=>some (IntKind.u32.wrap (c+a))).bind fun e=>
 some (.inl (((),(),(y.1.2.2.1.1,y.1.2.2.1.2.1,y.1.2.2.1.2.2.1,y.1.2.2.1.2.2.2.1,y.1.2.2.1.2.2.2.2.1,y.1.2.2.1.2.2.2.2.2.1,y.1.2.2.1.2.2.2.2.2.2.1,y.1.2.2.1.2.2.2.2.2.2.2.1,()),(IntKind.i64.wrap (y.1.2.2.2.1+(1:Int))),()),(y.2.1.set d e),y.2.2.1,()))
else
 some (.inr (((),(),()),y.2.1,y.2.2.1,()))
noncomputable def Eo:xv.F->Option (aA D7):=bo O'
theorem agz:aT O (an (codeOf Tryz.f121) 1 2042) (aU xv D7 Eo):=bE sS (by kernel_rfl) af fun y=>by kernel_rfl
abbrev i121:Shape:=⟨[b5 0 [.d (.int .u32),.d (.int .u32),.d (.int .u32),.d (.int .u32),.d (.int .u32),.d (.int .u32),.d (.int .u32),.d (.int .u32)],aK 1 .u8],[],208⟩
abbrev W9:Shape:=⟨[eu 4 4 .u32],[(4,.qd .u32 8,.same)],208⟩
noncomputable def f121(a:i121.F):Option W9.F:=
(G5 ((a.1.2.1,(),(),(),(0:Int),()),([a.1.1.1,a.1.1.2.1,a.1.1.2.2.1,a.1.1.2.2.2.1,a.1.1.2.2.2.2.1,a.1.1.2.2.2.2.2.1,a.1.1.2.2.2.2.2.2.1,a.1.1.2.2.2.2.2.2.2.1]:List Int),(List.replicate 8 (0:Int)),(List.replicate 64 (0:Int)),())).bind fun b=>
(Ft (((),(),(),(16:Int),()),b.2.1,b.2.2.1,b.2.2.2.1,())).bind fun c=>
((long 8 c.2.1).bind fun q=>bk q.length (0:Int)).bind fun d=>
(c.2.1[d]?).bind fun e=>
((long 8 c.2.1).bind fun q=>bk q.length (1:Int)).bind fun f=>
(c.2.1[f]?).bind fun g=>
((long 8 c.2.1).bind fun q=>bk q.length (2:Int)).bind fun h=>
(c.2.1[h]?).bind fun i=>
((long 8 c.2.1).bind fun q=>bk q.length (3:Int)).bind fun j=>
(c.2.1[j]?).bind fun k=>
((long 8 c.2.1).bind fun q=>bk q.length (4:Int)).bind fun l=>
(c.2.1[l]?).bind fun m=>
((long 8 c.2.1).bind fun q=>bk q.length (5:Int)).bind fun n=>
(c.2.1[n]?).bind fun B=>
((long 8 c.2.1).bind fun q=>bk q.length (6:Int)).bind fun p=>
(c.2.1[p]?).bind fun r=>
((long 8 c.2.1).bind fun q=>bk q.length (7:Int)).bind fun s=>
(c.2.1[s]?).bind fun t=>
(Ep (((),(),(),e,g,i,k,m,B,r,t,(0:Int),()),c.2.1,c.2.2.1,c.2.2.2.1,())).bind fun u=>
(Eo (((),(),(u.1.2.2.1,u.1.2.2.2.1,u.1.2.2.2.2.1,u.1.2.2.2.2.2.1,u.1.2.2.2.2.2.2.1,u.1.2.2.2.2.2.2.2.1,u.1.2.2.2.2.2.2.2.2.1,u.1.2.2.2.2.2.2.2.2.2.1,()),(0:Int),()),u.2.1,u.2.2.1,())).bind fun v=>
(long 8 v.2.1).bind fun w=>
(long 8 v.2.2.1).bind fun x=>
((long 8 ([(w.getD 0 (0:Int)),(w.getD 1 (0:Int)),(w.getD 2 (0:Int)),(w.getD 3 (0:Int)),(w.getD 4 (0:Int)),(w.getD 5 (0:Int)),(w.getD 6 (0:Int)),(w.getD 7 (0:Int))]:List Int)).bind fun q=>some (q,())).bind fun z=>some (((),()),z)
noncomputable def Zc:aB:=aG ad Tryz.f121 i121 W9 [] f121
theorem aqp:ay O 121 Zc:=aJ sS Tryz.func121 (by kernel_rfl) (a6 akX (a6 aiE (a6 agA (a6 agz af)))) (fun y=>by kernel_rfl) fun a=>by kernel_rfl
def fI(ws:List Int)(v:Int):List Int:=ws++v::List.replicate (63-ws.length) 0
def j1(ws:List Int):List Int:=ws++List.replicate (64-ws.length) 0
theorem U0{ws:List Int}(h:ws.length<64):j1 ws=fI ws 0:=by
 unfold j1 fI;rw[show 64-ws.length=(63-ws.length)+1 by omega];rfl
theorem Ul{ws:List Int}(h:ws.length<64)(v:Int):fI ws v=j1 (ws++[v]):=by
 unfold j1 fI;rw[List.length_append,show 64-(ws.length+[v].length)=63-ws.length from by show 64-(ws.length+1)=_;omega,List.append_assoc]
 rfl
theorem Sk{ws:List Int}(h:ws.length<64)(v:Int):(fI ws v).length=64:=by unfold fI;simp;omega
theorem zg{aI:Type}{n:Nat}{xs:List aI}(h:xs.length=n):long n xs=some xs:=by unfold long;rw[if_pos h]
theorem Sl{ws:List Int}(h:ws.length<64)(v:Int){k:Nat}(hk:k<64):((long 64 (fI ws v)).bind fun q=>bk q.length (k:Int))=some k:=by
 rw[zg (Sk h v)];exact fO (by rw[Sk h];exact hk)
theorem uw(ws:List Int)(v:Int):(fI ws v)[ws.length]? =some v:=by unfold fI;rw[List.getElem?_append_right (Nat.le_refl _)];simp
theorem zT{ws:List Int}{v:Int}{k:Nat}(h:k<ws.length):(fI ws v)[k]? =some (gb ws k):=by
 unfold fI;rw[List.getElem?_append_left h];exact lJ h
theorem uv(ws:List Int)(v u:Int):(fI ws v).set ws.length u=fI ws u:=by unfold fI;rw[List.set_append_right _ _ (Nat.le_refl _)];simp
theorem aop(b:List Int):∀(ws:List Int) (i:Nat) (c0 c1 c2 c3:Int) (r0 r1:List Int),ws.length=i->i<64->
  DO ((b,((),((),((),((i:Int),((i:Int),(([c0,c1,c2,c3]:List Int),((([c0,c1,c2,c3]:List Int).length:Int),((0:Int),()))))))))),(r0,(r1,(fI ws 0,()))))=
  some ((b,((),((),((),((i:Int),()))))),(r0,(r1,(fI ws (gE (gE (gE (gE 0 c0) c1) c2) c3),())))):=by
 intro ws i c0 c1 c2 c3 r0 r1 hw hi;subst hw;refine fo (g:=pu) (fun j=>((b,((),((),((),((ws.length:Int),((ws.length:Int),(([c0,c1,c2,c3]:List Int),((([c0,c1,c2,c3]:List Int).length:Int),((j:Int),()))))))))),
  (r0,(r1,(fI ws (match j with|0=>0|1=>gE 0 c0|2=>gE (gE 0 c0) c1|3=>gE (gE (gE 0 c0) c1) c2|_=>gE (gE (gE (gE 0 c0) c1) c2) c3),()))))) 4 (fun j hj=>?_) ?_ 4 0 rfl
 ·have hx:∀v:Int,((long 64 (fI ws v)).bind fun q=>bk q.length (ws.length:Int))=some ws.length:=fun v=>Sl hi v hi
  have:j=0\/j=1\/j=2\/j=3:=by omega
  have n0:IntKind.i64.wrap (((0:Nat):Int)+1)=((0+1:Nat):Int):=rfl;have n1:IntKind.i64.wrap (((1:Nat):Int)+1)=((1+1:Nat):Int):=rfl;have n2:IntKind.i64.wrap (((2:Nat):Int)+1)=((2+1:Nat):Int):=rfl;have kA:IntKind.i64.wrap (((3:Nat):Int)+1)=((3+1:Nat):Int):=rfl;have c:∀k:Nat,k<4->decide (((k:Nat):Int)<(([c0,c1,c2,c3]:List Int).length:Int))=true:=fun k hk=>by simp;omega
  have mZ:aN ([c0,c1,c2,c3]:List Int) ((0:Nat):Int)=some c0:=rfl;have fH:aN ([c0,c1,c2,c3]:List Int) ((1:Nat):Int)=some c1:=rfl;have fv:aN ([c0,c1,c2,c3]:List Int) ((2:Nat):Int)=some c2:=rfl;have i_:aN ([c0,c1,c2,c3]:List Int) ((3:Nat):Int)=some c3:=rfl;rcases this with rfl|rfl|rfl|rfl
  ·simp only[pu,c 0 (by omega),cond_true,hx,uw,uv,Option.bind_some,u6,n0,mZ];rfl
  ·simp only[pu,c 1 (by omega),cond_true,hx,uw,uv,Option.bind_some,u6,n1,fH];rfl
  ·simp only[pu,c 2 (by omega),cond_true,hx,uw,uv,Option.bind_some,u6,n2,fv];rfl
  ·simp only[pu,c 3 (by omega),cond_true,hx,uw,uv,Option.bind_some,u6,kA,i_];rfl
 ·have:decide (((4:Nat):Int)<(([c0,c1,c2,c3]:List Int).length:Int))=false:=rfl;simp only[pu,this,cond_false]
theorem aot(b:List Int)(hb:qQ b):∀r0 r1:List Int,G5 ((b,((),((),((),((0:Int),()))))),(r0,(r1,(List.replicate 64 (0:Int),()))))=some (((),((),((),()))),(r0,(r1,(j1 (ch b 16),())))):=by
 intro r0 r1;refine fo (g:=Hp) (fun i=>((b,((),((),((),((i:Int),()))))),(r0,(r1,(j1 (ch b i),()))))) 16 (fun i hi=>?_) rfl 16 0 rfl
 have hl:decide ((i:Int)<16)=true:=by simp;omega
 have hlen:=nl b i;have Z:decide (i<16)=true:=by simpa using hi
 have pk:IntKind.i64.wrap (((4*i:Nat):Int)+4)=((4*i+4:Nat):Int):=by have:=lu (i:=i) (by omega) 4 (by omega);rwa[sV (by omega)] at this
 have hs:bu b ((4*i:Nat):Int) ((4*i+4:Nat):Int)=some [gb b (4*i),gb b (4*i+1),gb b (4*i+2),gb b (4*i+3)]:=by
  rw[rr (by omega) (by rw[hb.1];omega)]
  congr 1
  apply List.ext_getElem?;intro j;rw[List.getElem?_drop,List.getElem?_take];by_cases hj:j<4
  ·rw[if_pos (by omega),lJ (by rw[hb.1];omega)]
   have:j=0\/j=1\/j=2\/j=3:=by omega
   rcases this with rfl|rfl|rfl|rfl<;>rfl
  ·rw[if_neg (by omega)]
   rw[List.getElem?_eq_none (by simp;omega)]
 have hw:=ajJ (hb.pf (j:=4*i) (by omega)) (hb.pf (j:=4*i+1) (by omega)) (hb.pf (j:=4*i+2) (by omega)) (hb.pf (j:=4*i+3) (by omega))
 have CC:=aop b (ch b i) i (gb b (4*i)) (gb b (4*i+1)) (gb b (4*i+2)) (gb b (4*i+3)) r0 r1 hlen (by omega)
 rw[hw] at CC;have hf:=U0 (ws:=ch b i) (by omega)
 have hn:j1 (ch b (i+1))=fI (ch b i) (wd (gb b (4*i)) (gb b (4*i+1)) (gb b (4*i+2)) (gb b (4*i+3))):=by rw[Ul (by omega)];simp only[ch,Z,cond_true]
 simp only[Hp,hl,cond_true,sV (i:=i) (by omega),pk,hs,Option.bind_some,hf,CC,hn,wp (i:=i) (by omega)]
theorem aos(b:List Int):∀r0 r1:List Int,Ft (((),((),((),((16:Int),())))),(r0,(r1,(j1 (ch b 16),()))))=some (((),((),((),()))),(r0,(r1,(j1 (ch b 64),())))):=by
 have t2:=fun x=>gW x 2 (by simp[eB]);have t6:=fun x=>gW x 6 (by simp[eB]);have t11:=fun x=>gW x 11 (by simp[eB])
 have t13:=fun x=>gW x 13 (by simp[eB]);have t22:=fun x=>gW x 22 (by simp[eB]);have t25:=fun x=>gW x 25 (by simp[eB])
 have t7:=fun x=>gW x 7 (by simp[eB]);have t18:=fun x=>gW x 18 (by simp[eB]);have t17:=fun x=>gW x 17 (by simp[eB]);have t19:=fun x=>gW x 19 (by simp[eB])
 intro r0 r1;refine fo (g:=FG) (fun i=>(((),((),((),(((16+i:Nat):Int),())))),(r0,(r1,(j1 (ch b (16+i)),()))))) 48 (fun i hi=>?_) rfl 48 0 rfl
 have hl:decide (((16+i:Nat):Int)<64)=true:=by simp;omega
 have hlen:=nl b (16+i);have Z:decide (16+i<16)=false:=by simp
 have hf:=U0 (ws:=ch b (16+i)) (by omega)
 have hs:j1 (ch b (16+(i+1)))=fI (ch b (16+i)) (u_ (ch b (16+i)) (16+i)):=by
  show j1 (ch b ((16+i)+1))=_;rw[Ul (by omega)];simp only[ch,Z,cond_false]
 have awS:=pj (i:=16+i) (q:=15) 15 rfl (by omega) (by omega)
 have e2:=pj (i:=16+i) (q:=2) 2 rfl (by omega) (by omega)
 have awR:=pj (i:=16+i) (q:=16) 16 rfl (by omega) (by omega)
 have wL:=pj (i:=16+i) (q:=7) 7 rfl (by omega) (by omega)
 have hx:∀k:Nat,k<64->((long 64 (fI (ch b (16+i)) 0)).bind fun q=>bk q.length (k:Int))=some k:=fun k hk=>Sl (by omega) _ hk
 have g15:=zT (ws:=ch b (16+i)) (v:=0) (k:=16+i-15) (by omega)
 have g2:=zT (ws:=ch b (16+i)) (v:=0) (k:=16+i-2) (by omega)
 have g16:=zT (ws:=ch b (16+i)) (v:=0) (k:=16+i-16) (by omega)
 have g7:=zT (ws:=ch b (16+i)) (v:=0) (k:=16+i-7) (by omega)
 have kD:(fI (ch b (16+i)) 0)[16+i]? =some 0:=by have:=uw (ch b (16+i)) 0;rwa[hlen] at this
 have gs:∀u,(fI (ch b (16+i)) 0).set (16+i) u=fI (ch b (16+i)) u:=fun u=>by have:=uv (ch b (16+i)) 0 u;rwa[hlen] at this
 simp only[FG,hl,cond_true,hf,awS,e2,awR,wL,hx (16+i-15) (by omega),hx (16+i-2) (by omega),hx (16+i-16) (by omega),hx (16+i-7) (by omega),hx (16+i) (by omega),g15,g2,g16,g7,kD,gs,Option.bind_some,t7,t18,t17,t19,Vr,Uq,wp (i:=16+i) (by omega),hs,u_,Ko,Kn]
 rfl
theorem aor(R:Nat->cd)(W:List Int)(hW:W.length=64)(hR:∀i,R (i+1)=u7 (gb h_ i) (gb W i) (R i))(r0 r1:List Int):Ep (((),((),((),((R 0).a,((R 0).b,((R 0).c,((R 0).d,((R 0).e,((R 0).f,((R 0).g,((R 0).h,((0:Int),())))))))))))),(r0,(r1,(W,()))))=
  some (((),((),((R 64).a,((R 64).b,((R 64).c,((R 64).d,((R 64).e,((R 64).f,((R 64).g,((R 64).h,())))))))))),(r0,(r1,()))):=by
 have t2:=fun x=>gW x 2 (by simp[eB]);have t6:=fun x=>gW x 6 (by simp[eB]);have t11:=fun x=>gW x 11 (by simp[eB])
 have t13:=fun x=>gW x 13 (by simp[eB]);have t22:=fun x=>gW x 22 (by simp[eB]);have t25:=fun x=>gW x 25 (by simp[eB])
 have t7:=fun x=>gW x 7 (by simp[eB]);have t18:=fun x=>gW x 18 (by simp[eB]);have t17:=fun x=>gW x 17 (by simp[eB]);have t19:=fun x=>gW x 19 (by simp[eB])
 refine fo (g:=xJ) (fun i=>(((),((),((),((R i).a,((R i).b,((R i).c,((R i).d,((R i).e,((R i).f,((R i).g,((R i).h,((i:Int),())))))))))))),(r0,(r1,(W,()))))) 64 (fun i hi=>?_) ?_ 64 0 rfl
 ·have hl:decide ((i:Int)<64)=true:=by simp;omega
  have g1:=uU (b:=h_) (j:=i) (by rw[Gz];exact hi)
  have hx:((long 64 W).bind fun q=>bk q.length (i:Int))=some i:=by rw[zg hW];exact fO (by rw[hW];exact hi)
  have g2:=lJ (b:=W) (j:=i) (by rw[hW];exact hi)
  rw[hR i];generalize R i=s;simp only[xJ,hl,cond_true,g1,hx,g2,Option.bind_some,t2,t6,t11,t13,t22,t25,wp (i:=i) (by omega),u7,Cg,Lk,Ll,Lj,Ks]
 ·have:decide (((64:Nat):Int)<64)=false:=rfl;simp only[xJ,this,cond_false]
theorem aoq(h:cd):∀(s:cd) (r1:List Int),Eo (((),((),((s.a,(s.b,(s.c,(s.d,(s.e,(s.f,(s.g,(s.h,())))))))),((0:Int),())))),(h.list,(r1,())))=some (((),((),())),((BS h s).list,(r1,()))):=by
 intro s r1;refine fo (g:=O') (fun i=>(((),((),((s.a,(s.b,(s.c,(s.d,(s.e,(s.f,(s.g,(s.h,())))))))),((i:Int),())))),((BS h s).list.take i++h.list.drop i,(r1,())))) 8 (fun i hi=>?_) rfl 8 0 rfl
 have:i=0\/i=1\/i=2\/i=3\/i=4\/i=5\/i=6\/i=7:=by omega
 rcases this with rfl|rfl|rfl|rfl|rfl|rfl|rfl|rfl<;>(show _=_;kernel_rfl)
theorem aen(h:cd)(b:List Int)(hb:qQ b):f121 (((h.a,(h.b,(h.c,(h.d,(h.e,(h.f,(h.g,(h.h,())))))))),(b,())),())=some (((),()),((vo h b).list,())):=by
 have aD:=aot b hb;have aF:=aos b;have pb:j1 (ch b 64)=ch b 64:=by unfold j1;rw[nl];simp
 have bI:=aor (l2 h (ch b 64)) (ch b 64) (nl b 64) (fun _=>rfl)
 have e1:(l2 h (ch b 64) 0)=h:=rfl;rw[e1] at bI;have cJ:=aoq h;have dG:∀s:cd,s.list.length=8:=fun s=>rfl
 have hx:∀k:Nat,k<8->((long 8 h.list).bind fun q=>bk q.length (k:Int))=some k:=fun k hk=>by rw[zg (dG h)];exact fO (by rw[dG];exact hk)
 have z0:=hx 0 (by omega);have eX:=hx 1 (by omega);have z2:=hx 2 (by omega);have z3:=hx 3 (by omega)
 have z4:=hx 4 (by omega);have z5:=hx 5 (by omega);have CY:=hx 6 (by omega);have CX:=hx 7 (by omega)
 have gT:([h.a,h.b,h.c,h.d,h.e,h.f,h.g,h.h]:List Int)=h.list:=rfl;have f_:h.list[0]? =some h.a:=rfl;have db:h.list[1]? =some h.b:=rfl;have dD:h.list[2]? =some h.c:=rfl;have dK:h.list[3]? =some h.d:=rfl;have hA:h.list[4]? =some h.e:=rfl;have eA:h.list[5]? =some h.f:=rfl;have eL:h.list[6]? =some h.g:=rfl;have LK:h.list[7]? =some h.h:=rfl;simp only[Int.cast_ofNat_Int,Int.natCast_zero] at z0 eX z2 z3 z4 z5 CY CX;simp only[f121,gT,aD,aF,pb,Option.bind_some,z0,eX,z2,z3,z4,z5,CY,CX,f_,db,dD,dK,hA,eA,eL,LK,bI,cJ];rw[zg (dG _)];rfl
abbrev yE:Shape:=⟨[ak 0,a_ 3 3000192],[a8 3000192 .u8 3 0],33⟩
abbrev F2:List aO:=[(.exit 0,⟨[ak 0,a_ 3 3000192],[a8 3000192 .u8 3 0],33⟩)]
noncomputable def zo(y:yE.F):bD yE F2:=
(h' (y.2.1.length:Int) (64:Int)).bind fun a=>
 bif(a !=(56:Int)) then
(cj 1 y.2.1 ([(0:Int)]:List Int)).bind fun b=>
 some (.inl ((y.1.1,(),()),b,()))
else
 some (.inr ((y.1.1,(),()),y.2.1,()))
noncomputable def GN:yE.F->Option (aA F2):=bo zo
theorem akj:aT O (an (codeOf Tryz.f256) 1 28) (aU yE F2 GN):=bE g0 (by kernel_rfl) af fun y=>by kernel_rfl
abbrev xX:Shape:=⟨[a_ 3 3000192,ag 4,ag 5],[a8 3000192 .u8 3 0],33⟩
abbrev EW:List aO:=[(.exit 2,⟨[a_ 3 3000192],[a8 3000192 .u8 3 0],33⟩)]
noncomputable def FE(y:xX.F):bD xX EW:=
 bif(decide (y.1.2.2.1>=(0:Int))) then
(eZ .i64 y.1.2.1 (IntKind.i64.wrap ((8:Int)*y.1.2.2.1))).bind fun a=>
(cj 1 y.2.1 ([(IntKind.u8.wrap a)]:List Int)).bind fun b=>
 some (.inl (((),y.1.2.1,(IntKind.i64.wrap (y.1.2.2.1-(1:Int))),()),b,()))
else
 some (.inr (((),()),y.2.1,()))
noncomputable def Fl:xX.F->Option (aA EW):=bo FE
theorem aim:aT O (an (codeOf Tryz.f256) 1 250) (aU xX EW Fl):=bE g0 (by kernel_rfl) af fun y=>by kernel_rfl
abbrev i256:Shape:=⟨[ak 0],[],33⟩
abbrev VN:Shape:=⟨[a_ 2 3000128],[a8 3000128 .u8 2 0],33⟩
noncomputable def f256(a:i256.F):Option VN.F:=
(if a.1.1.length<=maxLen then some () else none).bind fun b=>
(cj 1 (bytesOf a.1.1) ([(128:Int)]:List Int)).bind fun c=>
(GN ((a.1.1,(),()),c,())).bind fun d=>
(Fl (((),(IntKind.i64.wrap ((d.1.1.length:Int)*(8:Int))),(7:Int),()),d.2.1,())).bind fun e=>
 some (((),()),e.2.1,())
noncomputable def Ya:aB:=aG ad Tryz.f256 i256 VN [] f256
theorem apH:ay O 256 Ya:=aJ g0 Tryz.func256 (by kernel_rfl) (a6 akj (a6 aim af)) (fun y=>by kernel_rfl) fun a=>by kernel_rfl
noncomputable abbrev ase:a7:=[(256,Ya),(257,X_)]
theorem J4:aQ O (aY ad ase):=aV ⟨apH,apG,⟨⟩⟩
abbrev xZ:Shape:=⟨[a_ 3 3000192,aK 4 .u8,ag 5],[a8 3000192 .u32 3 0],57⟩
abbrev EY:List aO:=[(.exit 0,⟨[a_ 3 3000192],[a8 3000192 .u32 3 0],57⟩)]
noncomputable def ym(y:xZ.F):bD xZ EY:=
 bif(decide (y.1.2.2.1<(y.1.2.1.length:Int))) then
(bu y.1.2.1 y.1.2.2.1 (IntKind.i64.wrap (y.1.2.2.1+(64:Int)))).bind fun a=>
(f257 ((y.2.1,a,()),())).bind fun b=>
 some (.inl (((),y.1.2.1,(IntKind.i64.wrap (y.1.2.2.1+(64:Int))),()),b.2.1,()))
else
 some (.inr (((),()),y.2.1,()))
noncomputable def Fo:xZ.F->Option (aA EY):=bo ym
theorem ait:aT O (an (codeOf Tryz.f220) 1 122) (aU xZ EY Fo):=bE J4 (by kernel_rfl) af fun y=>by kernel_rfl
abbrev xY:Shape:=⟨[a_ 3 3000192,a_ 6 3000384,ag 7],[a8 3000192 .u32 3 0,a8 3000384 .u8 6 0],57⟩
abbrev EX:List aO:=[(.exit 2,⟨[a_ 6 3000384],[a8 3000384 .u8 6 0],57⟩)]
noncomputable def Qr(y:xY.F):bD xY EX:=
 bif(decide (y.1.2.2.1<(8:Int))) then
(bk y.2.1.length y.1.2.2.1).bind fun a=>
(y.2.1[a]?).bind fun b=>
(eZ .u32 b (24:Int)).bind fun c=>
(bk y.2.1.length y.1.2.2.1).bind fun d=>
(y.2.1[d]?).bind fun e=>
(eZ .u32 e (16:Int)).bind fun f=>
(bk y.2.1.length y.1.2.2.1).bind fun g=>
(y.2.1[g]?).bind fun h=>
(eZ .u32 h (8:Int)).bind fun i=>
(bk y.2.1.length y.1.2.2.1).bind fun j=>
(y.2.1[j]?).bind fun k=>
(cj 1 y.2.2.1 ([(IntKind.u8.wrap c),(IntKind.u8.wrap f),(IntKind.u8.wrap i),(IntKind.u8.wrap k)]:List Int)).bind fun l=>
 some (.inl (((),(),(IntKind.i64.wrap (y.1.2.2.1+(1:Int))),()),y.2.1,l,()))
else
 some (.inr (((),()),y.2.2.1,()))
noncomputable def Fm:xY.F->Option (aA EX):=bo Qr
theorem ais:aT O (an (codeOf Tryz.f220) 1 506) (aU xY EX Fm):=bE J4 (by kernel_rfl) af fun y=>by kernel_rfl
abbrev i220:Shape:=⟨[ak 0],[],57⟩
abbrev V0:Shape:=⟨[ak 2],[],57⟩
noncomputable def f220(a:i220.F):Option V0.F:=
(f256 ((a.1.1,()),())).bind fun b=>
(Fo (((),b.2.1,(0:Int),()),([(1779033703:Int),(3144134277:Int),(1013904242:Int),(2773480762:Int),(1359893119:Int),(2600822924:Int),(528734635:Int),(1541459225:Int)]:List Int),())).bind fun c=>
(Fm (((),(),(0:Int),()),c.2.1,([]:List Int),())).bind fun d=>
 some (((strOf d.2.1),()),())
noncomputable def Yl:aB:=aG ad Tryz.f220 i220 V0 [] f220
theorem apN:ay O 220 Yl:=aJ J4 Tryz.func220 (by kernel_rfl) (a6 ait (a6 ais af)) (fun y=>by kernel_rfl) fun a=>by kernel_rfl
def jY(n:Nat):Nat:=(120-n%64)%64
def jS(n:Int):List Int:=[IntKind.u8.wrap (n.fdiv (2^56)),IntKind.u8.wrap (n.fdiv (2^48)),IntKind.u8.wrap (n.fdiv (2^40)),IntKind.u8.wrap (n.fdiv (2^32)),IntKind.u8.wrap (n.fdiv (2^24)),IntKind.u8.wrap (n.fdiv (2^16)),IntKind.u8.wrap (n.fdiv (2^8)),IntKind.u8.wrap (n.fdiv (2^0))]
def iQ(s:J):List Int:=(bytesOf s++[128])++List.replicate (jY (s.length+1)) 0
def ec(s:J):List Int:=iQ s++jS ((s.length:Int)*8)
theorem iG(s:J):(bytesOf s).length=s.length:=by simp[bytesOf]
theorem uu(n:Nat):jY n<64:=Nat.mod_lt _ (by decide)
theorem FO(n:Nat):(n+jY n)%64=56:=by unfold jY;omega
theorem QD(n j:Nat)(h:j<jY n):(n+j)%64≠56:=by unfold jY at h;omega
theorem Fb(s:J):(iQ s).length=s.length+1+jY (s.length+1):=by simp[iQ,iG];omega
theorem ya(s:J):(ec s).length=s.length+1+jY (s.length+1)+8:=by simp[ec,Fb,jS]
theorem amf(x:Int):j4 (IntKind.u8.wrap x):=by rw[IntKind.wrap_u8];constructor<;>omega
theorem P9(s:J):∀x,x∈ec s->j4 x:=by
 intro x hx;rcases List.mem_append.1 hx with h|h
 ·rcases List.mem_append.1 h with h|h
  ·rcases List.mem_append.1 h with h|h
   ·obtain⟨b,_,rfl⟩:=List.mem_map.1 h;have:=b.toNat_lt;constructor<;>omega
   ·rw[List.mem_singleton.1 h];decide
  ·rw[(List.mem_replicate.1 h).2];decide
 ·simp only[jS,List.mem_cons,List.not_mem_nil,or_false] at h;rcases h with rfl|rfl|rfl|rfl|rfl|rfl|rfl|rfl<;>exact amf _
def qo(d:List Int)(k:Nat):List Int:=(d.take (64*k+64)).drop (64*k)
theorem Sb{d:List Int}{k:Nat}(h:64*k+64<=d.length)(hb:∀x,x∈d->j4 x):qQ (qo d k):=
 ⟨by unfold qo;simp;omega,fun x hx=>hb x (List.mem_of_mem_take (List.mem_of_mem_drop hx))⟩
def wT:cd:=⟨1779033703,3144134277,1013904242,2773480762,1359893119,2600822924,528734635,1541459225⟩
def s6(d:List Int):Nat->cd
 |0=>wT
 |k+1=>vo (s6 d k) (qo d k)
def eD(s:J):cd:=s6 (ec s) ((ec s).length/64)
theorem GC(s:J):64*((ec s).length/64)=(ec s).length:=by
 have:=FO (s.length+1);rw[ya];omega
theorem A6(n:Nat):h' (n:Int) 64=some ((n%64:Nat):Int):=by
 rw[nx (by omega) (by omega)];simp
theorem Qx(n:Nat)(d:List Int):d++List.replicate n 0++[0]=d++List.replicate (n+1) 0:=by
 rw[List.append_assoc,<-List.replicate_succ']
theorem aom{x:Int}{k:Nat}(h:k<=64):eZ .i64 x (k:Int)=some (x.fdiv (2^k)):=by
 unfold eZ;rw[if_neg (by omega),Int.toNat_natCast,show IntKind.i64.bits=64 from rfl,Nat.min_eq_left h]
theorem amj{x:Int}{k:Nat}(h:k<=64):eZ .u64 x (k:Int)=some (x.fdiv (2^k)):=by
 unfold eZ;rw[if_neg (by omega),Int.toNat_natCast,show IntKind.u64.bits=64 from rfl,Nat.min_eq_left h]
theorem O3(n:Int){i:Nat}(h:i<8):(jS n).take (i+1)=(jS n).take i++[IntKind.u8.wrap (n.fdiv (2^(8*(7-i))))]:=by
 have:i=0\/i=1\/i=2\/i=3\/i=4\/i=5\/i=6\/i=7:=by omega
 rcases this with rfl|rfl|rfl|rfl|rfl|rfl|rfl|rfl<;>rfl
abbrev pn(s:J):Prop:=s.length<=1073741824
theorem aer(s:J)(h:pn s):f256 ((s,()),())=some (((),()),(ec s,())):=by
 have hm:(if s.length<=maxLen then some () else none)=some ():=if_pos (by unfold maxLen;omega)
 have ha:cj 1 (bytesOf s) ([128]:List Int)=some (bytesOf s++[128]):=dt (by decide) (by unfold ax;rw[iG];simp;omega)
 have aD:GN ((s,((),())),(bytesOf s++[128],()))=some ((s,((),())),(iQ s,())):=by
  have hz:=uu (s.length+1);have qE:∀i:Nat,(bytesOf s++[128]++List.replicate i (0:Int)).length=s.length+1+i:=fun i=>by simp[iG];omega
  have:=fo (g:=zo) (fun i=>((s,((),())),(bytesOf s++[128]++List.replicate i (0:Int),()))) (jY (s.length+1)) (b:=((s,((),())),(iQ s,()))) (fun i hi=>?_) ?_ (jY (s.length+1)) 0 (by omega)
  ·rw[List.replicate_zero,List.append_nil] at this;exact this
  ·have hne:((((s.length+1+i)%64:Nat):Int) !=56)=true:=by have:=QD (s.length+1) i hi;rw[bne_iff_ne];omega
   simp only[zo,qE,A6,Option.bind_some,hne,cond_true];rw[dt (by decide) (by unfold ax;rw[qE];simp;omega)]
   simp only[Option.bind_some,Qx]
  ·have hne:((((s.length+1+jY (s.length+1))%64:Nat):Int) !=56)=false:=by have:=FO (s.length+1);rw[this];rfl
   simp only[zo,qE,A6,Option.bind_some,hne,cond_false];rfl
 have aF:∀n:Int,Fl (((),(n,((7:Int),()))),(iQ s,()))=some (((),()),(iQ s++jS n,())):=by
  intro n;have:=fo (g:=FE) (fun i=>(((),(n,((7-(i:Int)),()))),(iQ s++(jS n).take i,()))) 8 (b:=(((),()),(iQ s++jS n,()))) (fun i hi=>?_) rfl 8 0 rfl
  ·rw[show(7:Int)-((0:Nat):Int)=7 from rfl,List.take_zero,List.append_nil] at this;exact this
  ·have hl:decide ((7-(i:Int))>=0)=true:=by simp;omega
   have hw:IntKind.i64.wrap (8*(7-(i:Int)))=((8*(7-i):Nat):Int):=by rw[cM (by omega) (by omega)];omega
   have hs:IntKind.i64.wrap (7-(i:Int)-1)=7-((i+1:Nat):Int):=by rw[cM (by omega) (by omega)];omega
   simp only[FE,hl,cond_true,hw,aom (x:=n) (k:=8*(7-i)) (by omega),Option.bind_some,hs]
   rw[dt (by decide) (by unfold ax;simp[Fb,jS];have:=uu (s.length+1);omega)]
   simp only[Option.bind_some,List.append_assoc,O3 n hi]
 have hn:IntKind.i64.wrap ((s.length:Int)*8)=(s.length:Int)*8:=cM (by omega) (by omega)
 simp only[f256,hm,ha,Option.bind_some,aD,hn,aF];rfl
theorem ajR(s:J)(h:pn s):f220 ((s,()),())=some ((strOf ((eD s).list.flatMap fun w=>[IntKind.u8.wrap (w.fdiv (2^24)),IntKind.u8.wrap (w.fdiv (2^16)),IntKind.u8.wrap (w.fdiv (2^8)),IntKind.u8.wrap w]),()),()):=by
 have dG:=GC s;have hlen:=ya s;have hz:=uu (s.length+1);have jz:=P9 s;have aD:Fo (((),(ec s,((0:Int),()))),(wT.list,()))=some (((),()),((eD s).list,())):=by
  refine fo (g:=ym) (fun k=>(((),(ec s,(((64*k:Nat):Int),()))),((s6 (ec s) k).list,()))) ((ec s).length/64) (fun k hk=>?_) ?_ ((ec s).length/64) 0 (by omega)
  ·have hk2:64*k+64<=(ec s).length:=by omega
   have hl:decide (((64*k:Nat):Int)<((ec s).length:Int))=true:=by simp;omega
   have hw:IntKind.i64.wrap (((64*k:Nat):Int)+64)=((64*k+64:Nat):Int):=by rw[cM (by omega) (by omega)];omega
   have hs:bu (ec s) ((64*k:Nat):Int) ((64*k+64:Nat):Int)=some (qo (ec s) k):=rr (by omega) hk2
   have hb:=afE (s6 (ec s) k) (qo (ec s) k) (Sb hk2 jz);simp only[ym,hl,cond_true,hw,hs,Option.bind_some,hb];rfl
  ·have hl:decide (((64*((ec s).length/64):Nat):Int)<((ec s).length:Int))=false:=by simp;omega
   simp only[ym,hl,cond_false];rfl
 have aF:∀q:cd,Fm (((),((),((0:Int),()))),(q.list,(([]:List Int),())))=some (((),()),((q.list.flatMap fun w=>[IntKind.u8.wrap (w.fdiv (2^24)),IntKind.u8.wrap (w.fdiv (2^16)),IntKind.u8.wrap (w.fdiv (2^8)),IntKind.u8.wrap w]),())):=by
  intro q;refine fo (g:=Qr) (fun i=>(((),((),((i:Int),()))),(q.list,((q.list.take i).flatMap fun w=>[IntKind.u8.wrap (w.fdiv (2^24)),IntKind.u8.wrap (w.fdiv (2^16)),IntKind.u8.wrap (w.fdiv (2^8)),IntKind.u8.wrap w],())))) 8 (fun i hi=>?_) rfl 8 0 rfl
  have:i=0\/i=1\/i=2\/i=3\/i=4\/i=5\/i=6\/i=7:=by omega
  rcases this with rfl|rfl|rfl|rfl|rfl|rfl|rfl|rfl<;>(show _=_;kernel_rfl)
 have ly:=aer s h;have gT:([1779033703,3144134277,1013904242,2773480762,1359893119,2600822924,528734635,1541459225]:List Int)=wT.list:=rfl;simp only[f220,ly,Option.bind_some,gT,aD,aF]
abbrev TH:Shape:=⟨[au 0 500000 0,(1,.am (.d (.int .u8)))],[bm 37000001 .u8 500000 1,ar 500000 [.dh,.own 37000001]],17⟩
abbrev Tb:Shape:=⟨[au 0 500000 0,(4,.am (.BE))],[bm 37000001 .u8 500000 1,ar 500000 [.dh,.own 37000001]],17⟩
noncomputable def Ij(a:TH.F):Option Tb.F:=
(cj 1 a.2.1 ([a.1.2.1]:List Int)).bind fun b=>
 some (((),(),()),b,((),(),()),())
noncomputable def Ua:aB:=aG ad Tryz.f122 TH Tb [0] Ij
theorem al5:ay O 122 Ua:=aJ g0 Tryz.func122 (by kernel_rfl) af (fun y=>by kernel_rfl) fun a=>by kernel_rfl
abbrev x0:Shape:=⟨[ak 0,ak 3,a_ 4 3000256,ag 5],[a8 3000256 .u8 4 0],30⟩
abbrev EZ:List aO:=[(.exit 0,⟨[a_ 4 3000256],[a8 3000256 .u8 4 0],30⟩)]
noncomputable def yn(y:x0.F):bD x0 EZ:=
 bif(decide (y.1.2.2.2.1<(y.1.1.length:Int))) then
(aN y.1.1 y.1.2.2.2.1).bind fun a=>
(lc .u8 (a.toNat:Int) (16:Int)).bind fun b=>
(aN y.1.2.1 b).bind fun c=>
(aN y.1.1 y.1.2.2.2.1).bind fun d=>
(h' (d.toNat:Int) (16:Int)).bind fun e=>
(aN y.1.2.1 e).bind fun f=>
(cj 1 y.2.1 ([(c.toNat:Int),(f.toNat:Int)]:List Int)).bind fun g=>
 some (.inl ((y.1.1,y.1.2.1,(),(IntKind.i64.wrap (y.1.2.2.2.1+(1:Int))),()),g,()))
else
 some (.inr (((),()),y.2.1,()))
noncomputable def Fp:x0.F->Option (aA EZ):=bo yn
theorem aiu:aT O (an (codeOf Tryz.f219) 1 122) (aU x0 EZ Fp):=bE g0 (by kernel_rfl) af fun y=>by kernel_rfl
abbrev i219:Shape:=⟨[ak 0],[],30⟩
abbrev V1:Shape:=⟨[ak 2],[],30⟩
noncomputable def f219(a:i219.F):Option V1.F:=
(Fp ((a.1.1,([48,49,50,51,52,53,54,55,56,57,97,98,99,100,101,102]:J),(),(0:Int),()),([]:List Int),())).bind fun b=>
 some (((strOf b.2.1),()),())
noncomputable def Ym:aB:=aG ad Tryz.f219 i219 V1 [] f219
theorem apO:ay O 219 Ym:=aJ g0 Tryz.func219 (by kernel_rfl) (a6 aiu af) (fun y=>by kernel_rfl) fun a=>by kernel_rfl
noncomputable abbrev asC:a7:=[(219,Ym),(220,Yl)]
theorem atH:aQ O (aY ad asC):=aV ⟨apO,apN,⟨⟩⟩
abbrev i173:Shape:=⟨[ak 0],[],7⟩
abbrev Ww:Shape:=⟨[ak 2],[],7⟩
noncomputable def f173(a:i173.F):Option Ww.F:=
(f220 ((a.1.1,()),())).bind fun b=>
(f219 ((b.1.1,()),())).bind fun c=>
(bu c.1.1 (0:Int) (16:Int)).bind fun d=>
 some ((d,()),())
noncomputable def YK:aB:=aG ad Tryz.f173 i173 Ww [] f173
theorem z173:ay O 173 YK:=aJ atH Tryz.func173 (by kernel_rfl) af (fun y=>by kernel_rfl) fun a=>by kernel_rfl
noncomputable abbrev axx:a7:=[(121,Zc),(122,Ua)]
theorem tv:aQ O (aY ad axx):=aV ⟨aqp,al5,⟨⟩⟩
abbrev Ae:Shape:=⟨[ak 0,eu 3 3 .u32,a_ 4 3000256],[(3,.row .u32,.same),a8 3000256 .u8 4 0],70⟩
abbrev HK:List aO:=[(.exit 0,⟨[ak 0,eu 3 3 .u32,a_ 4 3000256],[(3,.row .u32,.same),a8 3000256 .u8 4 0],70⟩)]
noncomputable def AH(y:Ae.F):bD Ae HK:=
(h' (y.2.2.1.length:Int) (64:Int)).bind fun a=>
 bif(a !=(56:Int)) then
(cj 1 y.2.2.1 ([(0:Int)]:List Int)).bind fun b=>
 some (.inl ((y.1.1,(),(),()),y.2.1,b,()))
else
 some (.inr ((y.1.1,(),(),()),y.2.1,y.2.2.1,()))
noncomputable def H8:Ae.F->Option (aA HK):=bo AH
theorem amB:aT O (an (codeOf Tryz.f69) 1 60) (aU Ae HK H8):=bE tv (by kernel_rfl) af fun y=>by kernel_rfl
abbrev yu:Shape:=⟨[eu 3 3 .u32,a_ 4 3000256,(5,.am (.d (.int .u64))),ag 6],[(3,.row .u32,.same),a8 3000256 .u8 4 0],70⟩
abbrev FS:List aO:=[(.exit 2,⟨[eu 3 3 .u32,a_ 4 3000256],[(3,.row .u32,.same),a8 3000256 .u8 4 0],70⟩)]
noncomputable def Hg(y:yu.F):bD yu FS:=
 bif(decide (y.1.2.2.2.1>=(0:Int))) then
(eZ .u64 y.1.2.2.1 y.1.2.2.2.1).bind fun a=>
(cj 1 y.2.2.1 ([(IntKind.u8.wrap a)]:List Int)).bind fun b=>
 some (.inl (((),(),y.1.2.2.1,(IntKind.i64.wrap (y.1.2.2.2.1-(8:Int))),()),y.2.1,b,()))
else
 some (.inr (((),(),()),y.2.1,y.2.2.1,()))
noncomputable def GI:yu.F->Option (aA FS):=bo Hg
theorem aj5:aT O (an (codeOf Tryz.f69) 1 506) (aU yu FS GI):=bE tv (by kernel_rfl) af fun y=>by kernel_rfl
abbrev xS:Shape:=⟨[eu 3 3 .u32,aK 4 .u8,ag 7],[(3,.row .u32,.same)],70⟩
abbrev ER:List aO:=[(.exit 4,⟨[eu 3 3 .u32],[(3,.row .u32,.same)],70⟩)]
noncomputable def yg(y:xS.F):bD xS ER:=
 bif(decide (y.1.2.2.1<(y.1.2.1.length:Int))) then
(long 8 y.2.1).bind fun a=>
(bu y.1.2.1 y.1.2.2.1 (IntKind.i64.wrap (y.1.2.2.1+(64:Int)))).bind fun b=>
(f121 ((((a.getD 0 (0:Int)),(a.getD 1 (0:Int)),(a.getD 2 (0:Int)),(a.getD 3 (0:Int)),(a.getD 4 (0:Int)),(a.getD 5 (0:Int)),(a.getD 6 (0:Int)),(a.getD 7 (0:Int)),()),b,()),())).bind fun c=>
(long 8 y.2.1).bind fun d=>
 some (.inl (((),y.1.2.1,(IntKind.i64.wrap (y.1.2.2.1+(64:Int))),()),([((pad (t:=.u32) 8 c.2.1).getD 0 (0:Int)),((pad (t:=.u32) 8 c.2.1).getD 1 (0:Int)),((pad (t:=.u32) 8 c.2.1).getD 2 (0:Int)),((pad (t:=.u32) 8 c.2.1).getD 3 (0:Int)),((pad (t:=.u32) 8 c.2.1).getD 4 (0:Int)),((pad (t:=.u32) 8 c.2.1).getD 5 (0:Int)),((pad (t:=.u32) 8 c.2.1).getD 6 (0:Int)),((pad (t:=.u32) 8 c.2.1).getD 7 (0:Int))]:List Int),()))
else
 some (.inr (((),()),y.2.1,()))
noncomputable def Fh:xS.F->Option (aA ER):=bo yg
theorem aie:aT O (an (codeOf Tryz.f69) 1 1018) (aU xS ER Fh):=bE tv (by kernel_rfl) af fun y=>by kernel_rfl
abbrev wY:Shape:=⟨[au 8 8 0,(10,.am (.d (.int .u32))),ag 11,aK 52 .u32,ag 53,ag 54],[bm 5000513 .u8 8 1,ar 8 [.dh,.own 5000513]],70⟩
abbrev Ds:List aO:=[(.exit 8,⟨[au 8 8 0,aK 52 .u32,ag 53,ag 54],[bm 5000513 .u8 8 1,ar 8 [.dh,.own 5000513]],70⟩)]
noncomputable def Dy(y:wY.F):bD wY Ds:=
 bif(decide (y.1.2.2.1>=(0:Int))) then
(eZ .u32 y.1.2.1 y.1.2.2.1).bind fun a=>
(aN ([48,49,50,51,52,53,54,55,56,57,97,98,99,100,101,102]:J) (et .u32 a (15:Int))).bind fun b=>
(Ij (((),(b.toNat:Int),()),y.2.1,((),(),()),())).bind fun c=>
 some (.inl (((),y.1.2.1,(IntKind.i64.wrap (y.1.2.2.1-(4:Int))),y.1.2.2.2.1,y.1.2.2.2.2.1,y.1.2.2.2.2.2.1,()),c.2.1,((),(),()),()))
else
 some (.inr (((),y.1.2.2.2.1,y.1.2.2.2.2.1,y.1.2.2.2.2.2.1,()),y.2.1,((),(),()),()))
noncomputable def Dx:wY.F->Option (aA Ds):=bo Dy
theorem adP:aT O (an (cN (an (codeOf Tryz.f69) 1 4090)) 8180 1047142) (aU wY Ds Dx):=bE tv (by kernel_rfl) af fun y=>by kernel_rfl
abbrev xR:Shape:=⟨[au 8 8 0,aK 52 .u32,ag 53,ag 54],[bm 5000513 .u8 8 1,ar 8 [.dh,.own 5000513]],70⟩
abbrev EQ:List aO:=[(.exit 6,⟨[au 8 8 0],[bm 5000513 .u8 8 1,ar 8 [.dh,.own 5000513]],70⟩)]
noncomputable def pF(y:xR.F):bD xR EQ:=
 bif(decide (y.1.2.2.2.1<y.1.2.2.1)) then
(aN y.1.2.1 y.1.2.2.2.1).bind fun a=>
(Dx (((),a,(28:Int),y.1.2.1,y.1.2.2.1,y.1.2.2.2.1,()),y.2.1,((),(),()),())).bind fun b=>
 some (.inl (((),b.1.2.1,b.1.2.2.1,(IntKind.i64.wrap (b.1.2.2.2.1+(1:Int))),()),b.2.1,((),(),()),()))
else
 some (.inr (((),()),y.2.1,((),(),()),()))
noncomputable def Fg:xR.F->Option (aA EQ):=bo pF
theorem aid:aT O (an (codeOf Tryz.f69) 1 4090) (aU xR EQ Fg):=bE tv (by kernel_rfl) (a6 adP af) fun y=>by kernel_rfl
abbrev i69:Shape:=⟨[ak 0],[],70⟩
abbrev _n:Shape:=⟨[ak 2],[],70⟩
noncomputable def f69(a:i69.F):Option _n.F:=
(long 8 (List.replicate 8 (0:Int))).bind fun b=>
(if a.1.1.length<=maxLen then some () else none).bind fun c=>
(cj 1 (bytesOf a.1.1) ([(128:Int)]:List Int)).bind fun d=>
(H8 ((a.1.1,(),(),()),([(1779033703:Int),(3144134277:Int),(1013904242:Int),(2773480762:Int),(1359893119:Int),(2600822924:Int),(528734635:Int),(1541459225:Int)]:List Int),d,())).bind fun e=>
(GI (((),(),(IntKind.u64.wrap ((IntKind.u64.wrap (e.1.1.length:Int))*(8:Int))),(56:Int),()),e.2.1,e.2.2.1,())).bind fun f=>
(Fh (((),f.2.2.1,(0:Int),()),f.2.1,())).bind fun g=>
((long 8 g.2.1).bind fun q=>bu q (0:Int) (2:Int)).bind fun h=>
(Fg (((),h,(h.length:Int),(0:Int),()),([]:List Int),((),(),()),())).bind fun i=>
 some (((strOf i.2.1),()),())
noncomputable def aaP:aB:=aG ad Tryz.f69 i69 _n [] f69
theorem auc:ay O 69 aaP:=aJ tv Tryz.func69 (by kernel_rfl) (a6 amB (a6 aj5 (a6 aie (a6 aid af)))) (fun y=>by kernel_rfl) fun a=>by kernel_rfl
def sO:J:=[48,49,50,51,52,53,54,55,56,57,97,98,99,100,101,102]
def iR(k:Nat):UInt8:=sO.getD k 48
theorem H'{k:Nat}(h:k<16):aN sO (k:Int)=some (iR k):=by
 rw[bY];unfold iR;rw[List.getD_eq_getElem?_getD,List.getElem?_eq_getElem (by exact h)];rfl
def hO(b:UInt8):J:=[iR (b.toNat/16),iR (b.toNat%16)]
def ft(w:Int):J:=[iR (w.toNat/268435456%16),iR (w.toNat/16777216%16),iR (w.toNat/1048576%16),iR (w.toNat/65536%16),iR (w.toNat/4096%16),iR (w.toNat/256%16),iR (w.toNat/16%16),iR (w.toNat%16)]
def oR(s:J):J:=ft (eD s).a++ft (eD s).b
theorem tJ(s:J):strOf (bytesOf s)=s:=by
 unfold strOf bytesOf;rw[List.map_map];refine List.map_id'' (fun b=>?_) s
 simp
theorem oh(s t:J):bytesOf (s++t)=bytesOf s++bytesOf t:=by unfold bytesOf;rw[List.map_append]
theorem adv(s:J)(h:pn s):f219 ((s,()),())=some ((s.flatMap hO,()),()):=by
 have aD:Fp ((s,(sO,((),((0:Int),())))),(([]:List Int),()))=some (((),()),(bytesOf (s.flatMap hO),())):=by
  have hlen:∀t:J,(t.flatMap hO).length=2*t.length:=by
   intro t;induction t with
   |nil=>rfl
   |cons b r ih=>rw[List.flatMap_cons,List.length_append,ih];simp[hO];omega
  refine fo (g:=yn) (fun i=>((s,(sO,((),((i:Int),())))),(bytesOf ((s.take i).flatMap hO),()))) s.length (fun i hi=>?_) ?_ s.length 0 (by omega)
  ·obtain⟨b,hb⟩:∃b,s[i]? =some b:=⟨s[i],List.getElem?_eq_getElem hi⟩;have aC:lc .u8 (b.toNat:Int) 16=some ((b.toNat/16:Nat):Int):=by
    have:=b.toNat_lt;unfold lc;rw[if_neg (by decide),Int.tdiv_eq_ediv_of_nonneg (by omega),IntKind.wrap_u8]
    congr 1;omega
   have hr:h' (b.toNat:Int) 16=some ((b.toNat%16:Nat):Int):=by rw[nx (by omega) (by omega)];simp
   have:=b.toNat_lt;have e1:=H' (k:=b.toNat/16) (by omega)
   have e2:=H' (k:=b.toNat%16) (by omega)
   have aw:s.take (i+1)=s.take i++[b]:=by rw[List.take_add_one,hb];rfl
   simp only[yn,cq hi,cond_true,bY,hb,Option.bind_some,aC,hr,aw];simp only[<-bY,e1,e2,Option.bind_some];rw[dt (by decide) (by unfold ax;rw[iG,hlen];simp;omega),b4 (by unfold ax;omega)]
   simp only[Option.bind_some,List.flatMap_append,oh];rfl
  ·simp only[yn,dd,cond_false,List.take_length]
 have gT:([48,49,50,51,52,53,54,55,56,57,97,98,99,100,101,102]:J)=sO:=rfl;simp only[f219,gT,aD,Option.bind_some,tJ]
abbrev qP(w:Int):Prop:=0<=w/\w<4294967296
theorem RS{w:Int}(h:qP w):hO (UInt8.ofNat (IntKind.u8.wrap (w.fdiv (2^24))).toNat)++(hO (UInt8.ofNat (IntKind.u8.wrap (w.fdiv (2^16))).toNat)++(hO (UInt8.ofNat (IntKind.u8.wrap (w.fdiv (2^8))).toNat)++hO (UInt8.ofNat (IntKind.u8.wrap w).toNat)))=ft w:=by
 obtain⟨n,rfl⟩:=Int.eq_ofNat_of_zero_le h.1;have hn:n<4294967296:=by have:=h.2;omega
 have e:∀m:Nat,(UInt8.ofNat (IntKind.u8.wrap (m:Int)).toNat).toNat=m%256:=fun m=>by
  rw[IntKind.wrap_u8,show((m:Int)%256).toNat=m%256 by omega];simp
 have f:∀k:Nat,((n:Int).fdiv (2^k))=((n/2^k:Nat):Int):=fun k=>by
  rw[Int.fdiv_eq_ediv_of_nonneg _ (by exact Int.le_of_lt (Int.pow_pos (by decide)))]
  simp
 rw[f,f,f];simp only[hO,ft,e,List.cons_append,List.nil_append,Int.toNat_natCast];rw[show n/2^24%256/16=n/268435456%16 by omega,show n/2^24%256%16=n/16777216%16 by omega,show n/2^16%256/16=n/1048576%16 by omega,show n/2^16%256%16=n/65536%16 by omega,
  show n/2^8%256/16=n/4096%16 by omega,show n/2^8%256%16=n/256%16 by omega,show n%256/16=n/16%16 by omega,show n%256%16=n%16 by omega]
theorem Un(x:Int):qP (IntKind.u32.wrap x):=by rw[IntKind.wrap_u32];constructor<;>omega
theorem XM(s:J):qP (eD s).a/\qP (eD s).b:=by
 have h1:=GC s;have h2:=ya s;unfold eD;generalize hk:(ec s).length/64=k at h1;cases k with
 |zero=>omega
 |succ k=>exact⟨Un _,Un _⟩
theorem Qj(w:Int):(ft w).length=8:=rfl
theorem E7(s:J):(oR s).length=16:=rfl
theorem aoj(s:J)(h:pn s):f173 ((s,()),())=some ((oR s,()),()):=by
 have aD:=ajR s h;have hw:=XM s;have aF:=adv (strOf ((eD s).list.flatMap fun w=>[IntKind.u8.wrap (w.fdiv (2^24)),IntKind.u8.wrap (w.fdiv (2^16)),IntKind.u8.wrap (w.fdiv (2^8)),IntKind.u8.wrap w])) (by unfold pn;simp[strOf,cd.list])
 have aw:∀q:cd,bu ((strOf (q.list.flatMap fun w=>[IntKind.u8.wrap (w.fdiv (2^24)),IntKind.u8.wrap (w.fdiv (2^16)),IntKind.u8.wrap (w.fdiv (2^8)),IntKind.u8.wrap w])).flatMap hO) 0 16=
   some ((hO (UInt8.ofNat (IntKind.u8.wrap (q.a.fdiv (2^24))).toNat)++(hO (UInt8.ofNat (IntKind.u8.wrap (q.a.fdiv (2^16))).toNat)++(hO (UInt8.ofNat (IntKind.u8.wrap (q.a.fdiv (2^8))).toNat)++hO (UInt8.ofNat (IntKind.u8.wrap q.a).toNat))))++
    (hO (UInt8.ofNat (IntKind.u8.wrap (q.b.fdiv (2^24))).toNat)++(hO (UInt8.ofNat (IntKind.u8.wrap (q.b.fdiv (2^16))).toNat)++(hO (UInt8.ofNat (IntKind.u8.wrap (q.b.fdiv (2^8))).toNat)++hO (UInt8.ofNat (IntKind.u8.wrap q.b).toNat))))):=fun q=>rfl
 simp only[f173,aD,aF,Option.bind_some,aw,RS hw.1,RS hw.2];rfl
theorem apd{m:Nat}(h:m<4294967296):et .u32 (m:Int) 15=((m%16:Nat):Int):=by
 unfold et;rw[BitVec.toNat_and,Eg h,show(BitVec.ofInt IntKind.u32.bits 15).toNat=15 from rfl,show(15:Nat)=2^4-1 from rfl,Nat.and_two_pow_sub_one_eq_mod,ol (by omega) (by omega)]
theorem ai5(w:Int){i:Nat}(h:i<8):(ft w)[i]? =some (iR (w.toNat/2^(28-4*i)%16)):=by
 have:i=0\/i=1\/i=2\/i=3\/i=4\/i=5\/i=6\/i=7:=by omega
 rcases this with rfl|rfl|rfl|rfl|rfl|rfl|rfl|rfl<;>simp[ft]
theorem Qi(w:Int)(hw:qP w)(r0:List Int)(hr:r0.length<=100)(p q u):Dx (((),(w,((28:Int),(p,(q,(u,())))))),(r0,(((),((),())),())))=some (((),(p,(q,(u,())))),(r0++bytesOf (ft w),(((),((),())),()))):=by
 have:=fo (g:=Dy) (fun i=>(((),(w,((28-4*(i:Int)),(p,(q,(u,())))))),(r0++bytesOf ((ft w).take i),(((),((),())),())))) 8 (b:=(((),(p,(q,(u,())))),(r0++bytesOf (ft w),(((),((),())),())))) (fun i hi=>?_) rfl 8 0 rfl
 ·rw[show(28:Int)-4*((0:Nat):Int)=28 from rfl,List.take_zero] at this
  have e:r0++bytesOf []=r0:=List.append_nil r0;rw[e] at this;exact this
 ·obtain⟨n,rfl⟩:=Int.eq_ofNat_of_zero_le hw.1;have hn:n<4294967296:=by have:=hw.2;omega
  have hl:decide ((28-4*(i:Int))>=0)=true:=by simp;omega
  have hs:eZ .u32 (n:Int) (28-4*(i:Int))=some ((n/2^(28-4*i):Nat):Int):=by
   rw[show(28-4*(i:Int))=((28-4*i:Nat):Int) by omega]
   unfold eZ;rw[if_neg (by omega),Int.toNat_natCast,show IntKind.u32.bits=32 from rfl,Nat.min_eq_left (by omega),Int.fdiv_eq_ediv_of_nonneg _ (by exact Int.le_of_lt (Int.pow_pos (by decide)))]
   simp
  have hlt:n/2^(28-4*i)<4294967296:=Nat.lt_of_le_of_lt (Nat.div_le_self _ _) hn;have ha:=apd hlt;have hx:=H' (k:=n/2^(28-4*i)%16) (Nat.mod_lt _ (by decide))
  have Z:IntKind.i64.wrap (28-4*(i:Int)-4)=28-4*((i+1:Nat):Int):=by rw[cM (by omega) (by omega)];omega
  have aw:(ft (n:Int)).take (i+1)=(ft (n:Int)).take i++[iR (n/2^(28-4*i)%16)]:=by
   rw[List.take_add_one,ai5 _ hi,Int.toNat_natCast];rfl
  have gT:([48,49,50,51,52,53,54,55,56,57,97,98,99,100,101,102]:J)=sO:=rfl;simp only[Dy,hl,cond_true,hs,Option.bind_some,ha,gT,hx,Ij,Z,aw,oh];rw[dt (by decide) (by unfold ax;simp[iG,Qj];omega)]
  simp only[Option.bind_some,List.append_assoc];rfl
theorem ame(s:J)(h:pn s):f69 ((s,()),())=some ((oR s,()),()):=by
 have dG:=GC s;have hlen:=ya s;have hz:=uu (s.length+1);have jz:=P9 s;have hm:(if s.length<=maxLen then some () else none)=some ():=if_pos (by unfold maxLen;omega)
 have ha:cj 1 (bytesOf s) ([128]:List Int)=some (bytesOf s++[128]):=dt (by decide) (by unfold ax;rw[iG];simp;omega)
 have h8:long 8 (List.replicate 8 (0:Int))=some (List.replicate 8 (0:Int)):=rfl;have aD:∀r0:List Int,H8 ((s,((),((),()))),(r0,(bytesOf s++[128],())))=some ((s,((),((),()))),(r0,(iQ s,()))):=by
  intro r0;have qE:∀i:Nat,(bytesOf s++[128]++List.replicate i (0:Int)).length=s.length+1+i:=fun i=>by simp[iG];omega
  have:=fo (g:=AH) (fun i=>((s,((),((),()))),(r0,(bytesOf s++[128]++List.replicate i (0:Int),())))) (jY (s.length+1)) (b:=((s,((),((),()))),(r0,(iQ s,())))) (fun i hi=>?_) ?_ (jY (s.length+1)) 0 (by omega)
  ·rw[List.replicate_zero,List.append_nil] at this;exact this
  ·have hne:((((s.length+1+i)%64:Nat):Int) !=56)=true:=by have:=QD (s.length+1) i hi;rw[bne_iff_ne];omega
   simp only[AH,qE,A6,Option.bind_some,hne,cond_true];rw[dt (by decide) (by unfold ax;rw[qE];simp;omega)]
   simp only[Option.bind_some,Qx]
  ·have hne:((((s.length+1+jY (s.length+1))%64:Nat):Int) !=56)=false:=by have:=FO (s.length+1);rw[this];rfl
   simp only[AH,qE,A6,Option.bind_some,hne,cond_false];rfl
 have aF:∀(n:Int) (r0:List Int),GI (((),((),(n,((56:Int),())))),(r0,(iQ s,())))=some (((),((),())),(r0,(iQ s++jS n,()))):=by
  intro n r0;have:=fo (g:=Hg) (fun i=>(((),((),(n,((56-8*(i:Int)),())))),(r0,(iQ s++(jS n).take i,())))) 8 (b:=(((),((),())),(r0,(iQ s++jS n,())))) (fun i hi=>?_) rfl 8 0 rfl
  ·rw[show(56:Int)-8*((0:Nat):Int)=56 from rfl,List.take_zero,List.append_nil] at this;exact this
  ·have hl:decide ((56-8*(i:Int))>=0)=true:=by simp;omega
   have hw:(56-8*(i:Int))=((8*(7-i):Nat):Int):=by omega
   have hs:IntKind.i64.wrap (56-8*(i:Int)-8)=56-8*((i+1:Nat):Int):=by rw[cM (by omega) (by omega)];omega
   have hx:eZ .u64 n (56-8*(i:Int))=some (n.fdiv (2^(8*(7-i)))):=by rw[hw];exact amj (by omega)
   simp only[Hg,hl,cond_true,hx,Option.bind_some,hs];rw[dt (by decide) (by unfold ax;simp[Fb,jS];have:=uu (s.length+1);omega)]
   simp only[Option.bind_some,List.append_assoc,O3 n hi]
 have hp:∀q:cd,long 8 q.list=some q.list:=fun q=>rfl
 have bI:Fh (((),(ec s,((0:Int),()))),(wT.list,()))=some (((),()),((eD s).list,())):=by
  refine fo (g:=yg) (fun k=>(((),(ec s,(((64*k:Nat):Int),()))),((s6 (ec s) k).list,()))) ((ec s).length/64) (fun k hk=>?_) ?_ ((ec s).length/64) 0 (by omega)
  ·have hk2:64*k+64<=(ec s).length:=by omega
   have hl:decide (((64*k:Nat):Int)<((ec s).length:Int))=true:=by simp;omega
   have hw:IntKind.i64.wrap (((64*k:Nat):Int)+64)=((64*k+64:Nat):Int):=by rw[cM (by omega) (by omega)];omega
   have hs:bu (ec s) ((64*k:Nat):Int) ((64*k+64:Nat):Int)=some (qo (ec s) k):=rr (by omega) hk2
   have hb:=aen (s6 (ec s) k) (qo (ec s) k) (Sb hk2 jz);have aC:∀q:cd,((q.list.getD 0 0,(q.list.getD 1 0,(q.list.getD 2 0,(q.list.getD 3 0,(q.list.getD 4 0,(q.list.getD 5 0,(q.list.getD 6 0,(q.list.getD 7 0,())))))))):Int×Int×Int×Int×Int×Int×Int×Int×Unit)=(q.a,(q.b,(q.c,(q.d,(q.e,(q.f,(q.g,(q.h,())))))))):=fun q=>rfl
   simp only[yg,hl,cond_true,hw,hs,Option.bind_some,hp,aC,hb];rfl
  ·have hl:decide (((64*((ec s).length/64):Nat):Int)<((ec s).length:Int))=false:=by simp;omega
   simp only[yg,hl,cond_false];rfl
 have hw:=XM s;have cJ:∀a b:Int,qP a->qP b->Fg (((),(([a,b]:List Int),((([a,b]:List Int).length:Int),((0:Int),())))),(([]:List Int),(((),((),())),())))=some (((),()),(bytesOf (ft a++ft b),(((),((),())),()))):=by
  intro a b ha hb;have e1:=Qi a ha [] (by simp) ([a,b]:List Int) ((2:Int)) (0:Int)
  have e2:=Qi b hb (bytesOf (ft a)) (by rw[iG,Qj];decide) ([a,b]:List Int) ((2:Int)) (1:Int)
  have f_:aN ([a,b]:List Int) 0=some a:=rfl;have db:aN ([a,b]:List Int) 1=some b:=rfl;have iB:pF (((),(([a,b]:List Int),((2:Int),((0:Int),())))),(([]:List Int),(((),((),())),())))=some (.inl (((),(([a,b]:List Int),((2:Int),((1:Int),())))),(bytesOf (ft a),(((),((),())),())))):=by
   have:decide ((0:Int)<2)=true:=rfl;simp only[pF,this,cond_true,f_,Option.bind_some,e1];rfl
  have s1:pF (((),(([a,b]:List Int),((2:Int),((1:Int),())))),(bytesOf (ft a),(((),((),())),())))=some (.inl (((),(([a,b]:List Int),((2:Int),((2:Int),())))),(bytesOf (ft a++ft b),(((),((),())),())))):=by
   have:decide ((1:Int)<2)=true:=rfl;simp only[pF,this,cond_true,db,Option.bind_some,e2,oh];rfl
  have s2:pF (((),(([a,b]:List Int),((2:Int),((2:Int),())))),(bytesOf (ft a++ft b),(((),((),())),())))=some (.inr (((),()),(bytesOf (ft a++ft b),(((),((),())),())))):=by
   have:decide ((2:Int)<2)=false:=rfl;simp only[pF,this,cond_false]
  exact(fc iB).trans ((fc s1).trans (de s2))
 have hn:IntKind.u64.wrap (IntKind.u64.wrap (s.length:Int)*8)=(s.length:Int)*8:=by rw[IntKind.wrap_u64,IntKind.wrap_u64];omega
 have gT:([1779033703,3144134277,1013904242,2773480762,1359893119,2600822924,528734635,1541459225]:List Int)=wT.list:=rfl;have hz2:((long 8 (eD s).list).bind fun q=>bu q (0:Int) (2:Int))=some [(eD s).a,(eD s).b]:=rfl
 have arc:iQ s++jS ((s.length:Int)*8)=ec s:=rfl;simp only[f69,h8,hm,ha,Option.bind_some,gT,aD,hn,aF,arc,bI,hz2,cJ _ _ hw.1 hw.2,tJ];rfl
abbrev UP:Shape:=⟨[au 0 500000 0,ak 1],[bm 37000001 .u8 500000 1,ar 500000 [.dh,.own 37000001]],19⟩
abbrev UA:Shape:=⟨[au 0 500000 0,ag 4,(5,.am (.BE))],[bm 37000001 .u8 500000 1,ar 500000 [.dh,.own 37000001]],19⟩
noncomputable def lQ(a:UP.F):Option UA.F:=
(cj 1 a.2.1 (bytesOf a.1.2.1)).bind fun b=>
 some (((),(a.1.2.1.length:Int),(),()),b,((),(),()),())
noncomputable def Bp:aB:=aG ad Tryz.f63 UP UA [0] lQ
theorem Iv:ay O 63 Bp:=aJ g0 Tryz.func63 (by kernel_rfl) af (fun y=>by kernel_rfl) fun a=>by kernel_rfl
end Go.Proofs
namespace Go.Proofs
open Go.Shelf
def Tryz.adf:Go.Shelf.Ren:=⟨fun|171=>64|243=>113|246=>165|283=>205|284=>206|285=>207|286=>208|129=>240|317=>239|318=>241|319=>242|320=>243|337=>269|338=>270|n=>n,fun|3=>3|9=>9|2=>2|4=>4|171=>224|0=>0|53=>155|37=>52|5=>5|173=>227|212=>244|51=>153|20=>20|213=>245|46=>203|232=>268|233=>269|n=>n,fun|17=>1|18=>3|19=>4|n=>n⟩
theorem Tryz.aiZ:Go.Proofs.LaysM.n171 O Tryz.adf:={
 mixed:=by kernel_rfl
 f129:=Tryz.func240.trans (congrArg some (by kernel_rfl))
 f171:=Tryz.func64.trans (congrArg some (by kernel_rfl))
 f243:=Tryz.func113.trans (congrArg some (by kernel_rfl))
 f246:=Tryz.func165.trans (congrArg some (by kernel_rfl))
 f283:=Tryz.func205.trans (congrArg some (by kernel_rfl))
 f284:=Tryz.func206.trans (congrArg some (by kernel_rfl))
 f285:=Tryz.func207.trans (congrArg some (by kernel_rfl))
 f286:=Tryz.func208.trans (congrArg some (by kernel_rfl))
 f317:=Tryz.func239.trans (congrArg some (by kernel_rfl))
 f318:=Tryz.func241.trans (congrArg some (by kernel_rfl))
 f319:=Tryz.func242.trans (congrArg some (by kernel_rfl))
 f320:=Tryz.func243.trans (congrArg some (by kernel_rfl))
 f337:=Tryz.func269.trans (congrArg some (by kernel_rfl))
 f338:=Tryz.func270.trans (congrArg some (by kernel_rfl))
 t0:=Tryz.underlying0
 a0:=Tryz.isAgg0
 z0:=Tryz.sizeOf0
 v0:=Tryz.zeroValue0
 t2:=Tryz.underlying2
 a2:=Tryz.isAgg2
 z2:=Tryz.sizeOf2
 v2:=Tryz.zeroValue2
 t3:=Tryz.underlying3
 a3:=Tryz.isAgg3
 z3:=Tryz.sizeOf3
 v3:=Tryz.zeroValue3
 t4:=Tryz.underlying4
 a4:=Tryz.isAgg4
 z4:=Tryz.sizeOf4
 v4:=Tryz.zeroValue4
 t5:=Tryz.underlying5
 a5:=Tryz.isAgg5
 z5:=Tryz.sizeOf5
 v5:=Tryz.zeroValue5
 t9:=Tryz.underlying9
 a9:=Tryz.isAgg9
 z9:=Tryz.sizeOf9
 v9:=Tryz.zeroValue9
 t20:=Tryz.underlying20
 a20:=Tryz.isAgg20
 z20:=Tryz.sizeOf20
 v20:=Tryz.zeroValue20
 t37:=Tryz.underlying52
 a37:=Tryz.isAgg52
 z37:=Tryz.sizeOf52
 v37:=Tryz.zeroValue52
 t46:=Tryz.underlying203
 a46:=Tryz.isAgg203
 z46:=Tryz.sizeOf203
 v46:=Tryz.zeroValue203
 t51:=Tryz.underlying153
 a51:=Tryz.isAgg153
 z51:=Tryz.sizeOf153
 v51:=Tryz.zeroValue153
 t53:=Tryz.underlying155
 a53:=Tryz.isAgg155
 z53:=Tryz.sizeOf155
 v53:=Tryz.zeroValue155
 t171:=Tryz.underlying224
 a171:=Tryz.isAgg224
 z171:=Tryz.sizeOf224
 v171:=Tryz.zeroValue224
 t173:=Tryz.underlying227
 a173:=Tryz.isAgg227
 z173:=Tryz.sizeOf227
 v173:=Tryz.zeroValue227
 t212:=Tryz.underlying244
 a212:=Tryz.isAgg244
 z212:=Tryz.sizeOf244
 v212:=Tryz.zeroValue244
 t213:=Tryz.underlying245
 a213:=Tryz.isAgg245
 z213:=Tryz.sizeOf245
 t232:=Tryz.underlying268
 a232:=Tryz.isAgg268
 z232:=Tryz.sizeOf268
 v232:=Tryz.zeroValue268
 t233:=Tryz.underlying269
 a233:=Tryz.isAgg269
 z233:=Tryz.sizeOf269
 v233:=Tryz.zeroValue269
 g17:=by kernel_rfl
 g18:=by kernel_rfl
 g19:=by kernel_rfl
 i0:=by kernel_rfl
 i2:=by kernel_rfl
 i3:=by kernel_rfl
 i4:=by kernel_rfl
 i5:=by kernel_rfl
 i9:=by kernel_rfl
 i20:=by kernel_rfl
 i37:=by kernel_rfl
 i46:=by kernel_rfl
 i51:=by kernel_rfl
 i53:=by kernel_rfl
 i171:=by kernel_rfl
 i173:=by kernel_rfl
 i212:=by kernel_rfl
 i232:=by kernel_rfl
 i233:=by kernel_rfl
 m17:=by kernel_rfl
 m18:=by kernel_rfl
 m19:=by kernel_rfl}
open Go.RowKit Go.Sort Go.Lib in
theorem Tryz.strconv_Itoa(n:Int)(h0:-9223372036854775808<=n)(h1:n<=9223372036854775807)(w:World)(aq9:Lib.TabIs O w "internal/strconv.uint64pow10" .u64 Lib.pow10Tab):
  Calls O 64 #[.int .i64 n] w fun e w'=>e=.returned (.string ⟨(Lib.itoa n).toArray⟩)/\∃k os,w'=grow (w.drewN k) os:=Any.strconv_Itoa Tryz.aiZ n h0 h1 w aq9
def Tryz.ad5:Go.Shelf.Ren:=⟨fun|153=>214|152=>252|226=>253|227=>254|228=>255|137=>274|119=>275|224=>246|225=>245|217=>244|266=>271|n=>n,fun|9=>9|3=>3|4=>4|5=>5|21=>21|117=>253|116=>252|0=>0|46=>203|124=>264|n=>n,fun|n=>n⟩
theorem Tryz.ale:Go.Proofs.Lays.n153 O Tryz.ad5:={
 mixed:=by kernel_rfl
 f119:=Tryz.func275.trans (congrArg some (by kernel_rfl))
 f137:=Tryz.func274.trans (congrArg some (by kernel_rfl))
 f152:=Tryz.func252.trans (congrArg some (by kernel_rfl))
 f153:=Tryz.func214.trans (congrArg some (by kernel_rfl))
 f217:=Tryz.func244.trans (congrArg some (by kernel_rfl))
 f224:=Tryz.func246.trans (congrArg some (by kernel_rfl))
 f225:=Tryz.func245.trans (congrArg some (by kernel_rfl))
 f226:=Tryz.func253.trans (congrArg some (by kernel_rfl))
 f227:=Tryz.func254.trans (congrArg some (by kernel_rfl))
 f228:=Tryz.func255.trans (congrArg some (by kernel_rfl))
 f266:=Tryz.func271.trans (congrArg some (by kernel_rfl))
 t0:=Tryz.underlying0
 a0:=Tryz.isAgg0
 z0:=Tryz.sizeOf0
 v0:=Tryz.zeroValue0
 t3:=Tryz.underlying3
 a3:=Tryz.isAgg3
 z3:=Tryz.sizeOf3
 v3:=Tryz.zeroValue3
 t4:=Tryz.underlying4
 a4:=Tryz.isAgg4
 z4:=Tryz.sizeOf4
 v4:=Tryz.zeroValue4
 t5:=Tryz.underlying5
 a5:=Tryz.isAgg5
 z5:=Tryz.sizeOf5
 v5:=Tryz.zeroValue5
 t9:=Tryz.underlying9
 a9:=Tryz.isAgg9
 z9:=Tryz.sizeOf9
 v9:=Tryz.zeroValue9
 t21:=Tryz.underlying21
 a21:=Tryz.isAgg21
 z21:=Tryz.sizeOf21
 v21:=Tryz.zeroValue21
 t46:=Tryz.underlying203
 a46:=Tryz.isAgg203
 z46:=Tryz.sizeOf203
 v46:=Tryz.zeroValue203
 t116:=Tryz.underlying252
 a116:=Tryz.isAgg252
 z116:=Tryz.sizeOf252
 t117:=Tryz.underlying253
 a117:=Tryz.isAgg253
 z117:=Tryz.sizeOf253
 v117:=Tryz.zeroValue253
 t124:=Tryz.underlying264
 a124:=Tryz.isAgg264
 z124:=Tryz.sizeOf264
 v124:=Tryz.zeroValue264}
end Go.Proofs
namespace Go.Proofs
open Go.Jk
noncomputable def BT:aB:=Fw
theorem IR:ay O 64 BT:=alf (fun _ _=>enters_of Tryz.func64 (by kernel_rfl) rfl _ _) fun n h0 h1 w hw=>Tryz.strconv_Itoa n h0 h1 w (ahQ (by kernel_rfl) (show nE w 1 .u64 Lib.pow10Tab from hw.2))
noncomputable abbrev ata:a7:=[(63,Bp),(64,BT),(105,vu)]
theorem ZL:aQ O (aY ad ata):=aV ⟨Iv,IR,z105,⟨⟩⟩
abbrev x8:Shape:=⟨[au 3 3 0,aK 10 .entry,ag 11,ag 12],[bm 5000193 .u8 3 1,ar 3 [.dh,.own 5000193]],64⟩
abbrev E5:List aO:=[(.exit 0,⟨[au 3 3 0],[bm 5000193 .u8 3 1,ar 3 [.dh,.own 5000193]],64⟩)]
noncomputable def yq(y:x8.F):bD x8 E5:=
 bif(decide (y.1.2.2.2.1<y.1.2.2.1)) then
(aN y.1.2.1 y.1.2.2.2.1).bind fun a=>
(if-9223372036854775808<=a.mode/\a.mode<=9223372036854775807 then some () else none).bind fun b=>
 bif(a.kind==(1:Int)) then
(bX ([100,105,114,32]:J) (Lib.itoa a.mode)).bind fun c=>
(bX c ([32]:J)).bind fun d=>
(bX d a.path).bind fun e=>
(bX e ([10]:J)).bind fun f=>
(lQ (((),f,()),y.2.1,((),(),()),())).bind fun g=>
 some (.inl (((),y.1.2.1,y.1.2.2.1,(IntKind.i64.wrap (y.1.2.2.2.1+(1:Int))),()),g.2.1,((),(),()),()))
else
 bif(a.kind==(2:Int)) then
(bX ([102,105,108,101,32]:J) (Lib.itoa a.mode)).bind fun h=>
(bX h ([32]:J)).bind fun i=>
(bX i a.path).bind fun j=>
(bX j ([32]:J)).bind fun k=>
(if-9223372036854775808<=(a.text.length:Int)/\(a.text.length:Int)<=9223372036854775807 then some () else none).bind fun l=>
(bX k (Lib.itoa (a.text.length:Int))).bind fun m=>
(bX m ([10]:J)).bind fun n=>
(lQ (((),n,()),y.2.1,((),(),()),())).bind fun B=>
(bX a.text ([10]:J)).bind fun p=>
(lQ (((),p,()),B.2.1,((),(),()),())).bind fun q=>
 some (.inl (((),y.1.2.1,y.1.2.2.1,(IntKind.i64.wrap (y.1.2.2.2.1+(1:Int))),()),q.2.1,((),(),()),()))
else
 bif(a.kind==(3:Int)) then
(bX ([108,105,110,107,32]:J) a.path).bind fun r=>
(bX r ([32]:J)).bind fun s=>
(bX s a.text).bind fun t=>
(bX t ([10]:J)).bind fun u=>
(lQ (((),u,()),y.2.1,((),(),()),())).bind fun v=>
 some (.inl (((),y.1.2.1,y.1.2.2.1,(IntKind.i64.wrap (y.1.2.2.2.1+(1:Int))),()),v.2.1,((),(),()),()))
else
 some (.inl (((),y.1.2.1,y.1.2.2.1,(IntKind.i64.wrap (y.1.2.2.2.1+(1:Int))),()),y.2.1,((),(),()),()))
else
 some (.inr (((),()),y.2.1,((),(),()),()))
noncomputable def Fu:x8.F->Option (aA E5):=bo yq
theorem aiF:aT O (an (codeOf Tryz.f120) 1 122) (aU x8 E5 Fu):=bE ZL (by kernel_rfl) af fun y=>by kernel_rfl
abbrev i120:Shape:=⟨[aK 0 .entry],[],64⟩
abbrev W_:Shape:=⟨[ak 2],[],64⟩
noncomputable def f120(a:i120.F):Option W_.F:=
(f105 ((a.1.1,()),())).bind fun b=>
 bif(!b.1.1) then
 some ((([]:J),()),())
else
(Fu (((),a.1.1,(a.1.1.length:Int),(0:Int),()),([]:List Int),((),(),()),())).bind fun c=>
 some (((strOf c.2.1),()),())
noncomputable def Zd:aB:=aG ad Tryz.f120 i120 W_ [] f120
theorem aqq:ay O 120 Zd:=aJ ZL Tryz.func120 (by kernel_rfl) (a6 aiF af) (fun y=>by kernel_rfl) fun a=>by kernel_rfl
abbrev i83:Shape:=⟨[ag 0],[],28⟩
abbrev mM:Shape:=⟨[ak 2],[],28⟩
noncomputable def JD(aR:i83.F->Option mM.F):aB:=aG ad Tryz.f83 i83 mM [] aR
noncomputable abbrev axt(aR:i83.F->Option mM.F):a7:=[(83,(JD aR))]
theorem ax8(aR:i83.F->Option mM.F)(en:ay O 83 (JD aR)):aQ O (aY ad (axt aR)):=aV ⟨en,⟨⟩⟩
noncomputable def lh(aR:i83.F->Option mM.F)(a:i83.F):Option mM.F:=
 bif(decide (a.1.1<((-9223372036854775807):Int))) then
 some ((([45,57,50,50,51,51,55,50,48,51,54,56,53,52,55,55,53,56,48,56]:J),()),())
else
 bif(decide (a.1.1<(0:Int))) then
(aR (((IntKind.i64.wrap (0-a.1.1)),()),())).bind fun b=>
(bX ([45]:J) b.1.1).bind fun c=>
 some ((c,()),())
else
 bif(decide (a.1.1<(10:Int))) then
 some (((strOf ([(IntKind.u8.wrap (IntKind.i64.wrap ((48:Int)+a.1.1)))]:List Int)),()),())
else
(lc .i64 a.1.1 (10:Int)).bind fun d=>
(aR ((d,()),())).bind fun e=>
(h' a.1.1 (10:Int)).bind fun f=>
(bX e.1.1 (strOf ([(IntKind.u8.wrap (IntKind.i64.wrap ((48:Int)+f)))]:List Int))).bind fun g=>
 some ((g,()),())
theorem apq(aR:i83.F->Option mM.F)(en:ay O 83 (JD aR)):ay O 83 (aG ad Tryz.f83 i83 mM [] (lh aR)):=aJ (ax8 aR en) Tryz.func83 (by kernel_rfl) af (fun y=>by kernel_rfl) fun a=>by kernel_rfl
noncomputable def f83:i83.F->Option mM.F:=jk lh jQ
noncomputable def wk:aB:=aG ad Tryz.f83 i83 mM [] f83
theorem B':ay O 83 wk:=HU (ff:=lh) apq jQ
noncomputable abbrev asa:a7:=[(83,wk)]
theorem atw:aQ O (aY ad asa):=aV ⟨B',⟨⟩⟩
abbrev i226:Shape:=⟨[b5 0 [ah,aX,aX,ah]],[],45⟩
abbrev VV:Shape:=⟨[ak 2],[],45⟩
noncomputable def f226(a:i226.F):Option VV.F:=
 bif(a.1.1.2.1==(1:Int)) then
(f83 ((a.1.1.2.2.1,()),())).bind fun b=>
(bX ([100,105,114,32]:J) b.1.1).bind fun c=>
(bX c ([32]:J)).bind fun d=>
(bX d a.1.1.1).bind fun e=>
(bX e ([10]:J)).bind fun f=>
 some ((f,()),())
else
 bif(a.1.1.2.1==(3:Int)) then
(bX ([108,105,110,107,32]:J) a.1.1.1).bind fun g=>
(bX g ([32]:J)).bind fun h=>
(bX h a.1.1.2.2.2.1).bind fun i=>
(bX i ([10]:J)).bind fun j=>
 some ((j,()),())
else
(f83 ((a.1.1.2.2.1,()),())).bind fun k=>
(bX ([102,105,108,101,32]:J) k.1.1).bind fun l=>
(bX l ([32]:J)).bind fun m=>
(bX m a.1.1.1).bind fun n=>
(bX n ([32]:J)).bind fun B=>
(f83 (((a.1.1.2.2.2.1.length:Int),()),())).bind fun p=>
(bX B p.1.1).bind fun q=>
(bX q ([10]:J)).bind fun r=>
(bX r a.1.1.2.2.2.1).bind fun s=>
(bX s ([10]:J)).bind fun t=>
 some ((t,()),())
noncomputable def Yi:aB:=aG ad Tryz.f226 i226 VV [] f226
theorem z226:ay O 226 Yi:=aJ atw Tryz.func226 (by kernel_rfl) af (fun y=>by kernel_rfl) fun a=>by kernel_rfl
noncomputable abbrev asw:a7:=[(226,Yi)]
theorem Zw:aQ O (aY ad asw):=aV ⟨z226,⟨⟩⟩
abbrev yO:Shape:=⟨[aK 0 .entry,ak 3,ag 4],[],19⟩
abbrev F_:List aO:=[(.exit 0,⟨[ak 3],[],19⟩)]
noncomputable def zv(y:yO.F):bD yO F_:=
 bif(decide (y.1.2.2.1<(y.1.1.length:Int))) then
(aN y.1.1 y.1.2.2.1).bind fun a=>
(f226 (((a.path,a.kind,a.mode,a.text,()),()),())).bind fun b=>
(bX y.1.2.1 b.1.1).bind fun c=>
 some (.inl ((y.1.1,c,(IntKind.i64.wrap (y.1.2.2.1+(1:Int))),()),()))
else
 some (.inr ((y.1.2.1,()),()))
noncomputable def GU:yO.F->Option (aA F_):=bo zv
theorem aky:aT O (an (codeOf Tryz.f181) 1 58) (aU yO F_ GU):=bE Zw (by kernel_rfl) af fun y=>by kernel_rfl
abbrev i181:Shape:=⟨[aK 0 .entry],[],19⟩
abbrev Wq:Shape:=⟨[ak 2],[],19⟩
noncomputable def f181(a:i181.F):Option Wq.F:=
(GU ((a.1.1,([]:J),(0:Int),()),())).bind fun b=>
 some ((b.1.1,()),())
noncomputable def JQ:aB:=aG ad Tryz.f181 i181 Wq [] f181
theorem Vj:ay O 181 JQ:=aJ Zw Tryz.func181 (by kernel_rfl) (a6 aky af) (fun y=>by kernel_rfl) fun a=>by kernel_rfl
theorem QA(m:Nat)(h:m<10):strOf ([(IntKind.u8.wrap (IntKind.i64.wrap ((48:Int)+(m:Int))))]:List Int)=[UInt8.ofNat (48+m)]:=by
 have:IntKind.u8.wrap (IntKind.i64.wrap ((48:Int)+(m:Int)))=((48+m:Nat):Int):=by
  rw[cM (by omega) (by omega),IntKind.wrap_u8];omega
 rw[this];rfl
theorem R':∀n:Nat,n<10^20->(Lib.decDigits n).length<=20:=by
 have:∀(k n:Nat),n<10^(k+1)->(Lib.decDigits n).length<=k+1:=by
  intro k;induction k with
  |zero=>intro n h;rw[Lib.decDigits,dif_pos (by omega)];simp
  |succ k ih=>
   intro n h;rw[Lib.decDigits];split
   ·simp
   ·have:=ih (n/10) (by rw[Nat.pow_succ] at h;omega)
    simp;omega
 intro n h;exact this 19 n h
theorem tY(n:Nat):Lib.itoa (n:Int)=Lib.decDigits n:=by unfold Lib.itoa;rw[if_neg (by omega),Int.toNat_natCast]
theorem om(n:Nat)(h:n<=4611686018427387904):(Lib.itoa (n:Int)).length<=20:=by rw[tY];exact R' n (by omega)
theorem ahD:∀(m:Nat),m<=4611686018427387903->∀f:Nat,m<f->jk lh f (((m:Int),()),())=some ((Lib.decDigits m,()),()):=by
 intro m;induction m using Nat.strongRecOn with
 |_ m ih=>
  intro hm f hf;obtain⟨f,rfl⟩:∃ayY,f=ayY+1:=⟨f-1,by omega⟩
  show lh (jk lh f) (((m:Int),()),())=_;have h1:decide ((m:Int)< -9223372036854775807)=false:=decide_eq_false (by omega)
  have h2:decide ((m:Int)<0)=false:=decide_eq_false (by omega)
  have h3:decide ((m:Int)<10)=decide (m<10):=by congr 1;apply propext;omega
  rw[Lib.decDigits];by_cases h:m<10
  ·rw[dif_pos h];simp only[lh,h1,h2,h3,h,decide_true,cond_true,cond_false,QA m h]
  ·have aC:lc .i64 (m:Int) 10=some ((m/10:Nat):Int):=by exact uy rfl (by omega) (by omega) (by decide)
   have hr:h' (m:Int) 10=some ((m%10:Nat):Int):=by exact nx (by omega) (by decide)
   rw[dif_neg h];simp only[lh,h1,h2,h3,h,decide_false,cond_false,aC,hr,Option.bind_some,ih (m/10) (by omega) (by omega) f (by omega),QA (m%10) (by omega)]
   rw[dA (by have:=R' (m/10) (by omega);simp;omega)]
   rfl
theorem FR(m:Nat)(h:m<=4611686018427387903):f83 (((m:Int),()),())=some ((Lib.itoa (m:Int),()),()):=by
 rw[tY];exact ahD m h jQ (by unfold jQ;omega)
def eE(e:az):J:=bif e.kind==1 then [100,105,114,32]++Lib.itoa e.mode++[32]++e.path++[10] else bif e.kind==3 then [108,105,110,107,32]++e.path++[32]++e.text++[10]
 else [102,105,108,101,32]++Lib.itoa e.mode++[32]++e.path++[32]++Lib.itoa (e.text.length:Int)++[10]++e.text++[10]
def eM(t:List az):J:=t.flatMap eE
abbrev od(e:az):Prop:=0<=e.mode/\e.mode<=7
theorem G_{e:az}(h:od e):(Lib.itoa e.mode).length<=20:=by
 obtain⟨n,hn⟩:=Int.eq_ofNat_of_zero_le h.1;rw[hn];exact om n (by have:=h.2;omega)
theorem Ek{e:az}(h:od e)(hb:ls e):(eE e).length<=4194404:=by
 have h1:=G_ h;have h2:=om e.text.length (by have:=hb.2;omega)
 have h3:=hb.1;have aE:=hb.2;unfold eE;cases e.kind==1<;>cases e.kind==3<;>simp<;>omega
theorem ahz(e:az)(h:od e)(hb:ls e):f226 (((e.path,(e.kind,(e.mode,(e.text,())))),()),())=some ((eE e,()),()):=by
 have h1:=G_ h;have h2:=om e.text.length (by have:=hb.2;omega)
 have h3:=hb.1;have aE:=hb.2;obtain⟨n,hn⟩:=Int.eq_ofNat_of_zero_le h.1;have d1:=FR n (by have:=h.2;omega)
 rw[<-hn] at d1;have d2:=FR e.text.length (by omega)
 unfold eE;simp only[f226];cases e.kind==1 with
 |true=>
  simp only[cond_true,d1,Option.bind_some];repeat(rw[dA (by simp;omega),Option.bind_some])
 |false=>
  cases e.kind==3 with
  |true=>
   simp only[cond_true,cond_false,Option.bind_some];repeat(rw[dA (by simp;omega),Option.bind_some])
  |false=>
   simp only[cond_false,d1,d2,Option.bind_some];repeat(rw[dA (by simp;omega),Option.bind_some])
theorem rA{aI:Type}{f:aI->J}{n:Nat}:∀{xs:List aI},(∀x,x∈xs->(f x).length<=n)->(xs.flatMap f).length<=xs.length*n:=by
 intro xs;induction xs with
 |nil=>intro _;simp
 |cons x r ih=>
  intro h;have h1:=h x List.mem_cons_self;have h2:=ih fun y hy=>h y (List.mem_cons_of_mem _ hy)
  rw[List.flatMap_cons,List.length_append,List.length_cons,Nat.add_mul];omega
theorem ml{aI:Type}(f:aI->J){xs:List aI}{i:Nat}{x:aI}(h:xs[i]? =some x):(xs.take (i+1)).flatMap f=(xs.take i).flatMap f++f x:=by
 rw[List.take_add_one,h,List.flatMap_append];simp
theorem w_{t:List az}(hm:∀e,e∈t->od e)(hb:iu t)(hl:t.length<=16):(eM t).length<=67110464:=by
 have h1:=rA (f:=eE) (xs:=t) (n:=4194404) fun e he=>Ek (hm e he) (hb.2 e he)
 unfold eM;exact Nat.le_trans h1 (by omega)
theorem pz{aI:Type}{xs:List aI}{i:Nat}{x:aI}(h:x∈xs.take i):x∈xs:=List.mem_of_mem_take h
theorem Mz{t:List az}(hm:∀e,e∈t->od e)(hb:iu t)(hl:t.length<=16)(i:Nat):((t.take i).flatMap eE).length<=67110464:=
 w_ (t:=t.take i) (fun e he=>hm e (pz he)) ⟨Nat.le_trans (List.take_sublist i t).length_le hb.1,fun e he=>hb.2 e (pz he)⟩ (Nat.le_trans (List.take_sublist i t).length_le hl)
theorem afD(t:List az)(hm:∀e,e∈t->od e)(hb:iu t)(hl:t.length<=16):f181 ((t,()),())=some ((eM t,()),()):=by
 have aD:GU ((t,(([]:J),((0:Int),()))),())=some ((eM t,()),()):=by
  refine fo (g:=zv) (fun i=>((t,((t.take i).flatMap eE,((i:Int),()))),())) t.length (fun i hi=>?_) ?_ t.length 0 (by omega)
  ·obtain⟨e,he⟩:∃e,t[i]? =some e:=⟨t[i],List.getElem?_eq_getElem hi⟩;have d':=List.mem_of_getElem? he;have:=Mz hm hb hl i;have gO:=Ek (hm e d') (hb.2 e d');simp only[zv,cq hi,cond_true,bY,he,Option.bind_some,ahz e (hm e d') (hb.2 e d')];rw[dA (by omega),b4 (by unfold ax;omega),ml eE he]
   rfl
  ·simp only[zv,dd,cond_false,List.take_length];rfl
 simp only[f181,aD,Option.bind_some]
theorem xN{n a b:Int}(h:within n a b=true):a<=n/\n<=b:=by
 unfold within at h;simpa using h
theorem FI{e:az}(h:eN e=true):od e:=by
 unfold eN at h;simp only[Bool.and_eq_true] at h;have h:=h.2;cases aD:(e.kind==1) with
 |true=>
  rw[aD] at h;simp only[cond_true,Bool.and_eq_true] at h;exact xN h.1
 |false=>
  cases aF:(e.kind==2) with
  |true=>
   rw[aD,aF] at h;simp only[cond_true,cond_false,Bool.and_eq_true] at h;exact xN h.1
  |false=>
   rw[aD,aF] at h;cases bI:(e.kind==3) with
   |true=>
    rw[bI] at h;simp only[cond_true,cond_false,Bool.and_eq_true,beq_iff_eq] at h;exact⟨by rw[h.1];decide,by rw[h.1];decide⟩
   |false=>rw[bI] at h;cases h
theorem xd{e:az}(h:eN e=true):e.kind=1\/e.kind=2\/e.kind=3:=by
 unfold eN at h;simp only[Bool.and_eq_true] at h;have h:=h.2;cases aD:(e.kind==1) with
 |true=>exact .inl (eq_of_beq aD)
 |false=>
  cases aF:(e.kind==2) with
  |true=>exact .inr (.inl (eq_of_beq aF))
  |false=>
   cases bI:(e.kind==3) with
   |true=>exact .inr (.inr (eq_of_beq bI))
   |false=>rw[aD,aF,bI] at h;cases h
theorem w3{t:List az}(h:dC t=true):∀e,e∈t->eN e=true:=by
 intro e he;unfold dC at h;simp only[Bool.and_eq_true] at h;obtain⟨i,hi⟩:=List.getElem?_of_mem he;have:=ys t 0 h.1.1 i e hi;unfold io at this;simp only[Bool.and_eq_true] at this;exact this.1
theorem ox(xs:List Int)(s:J)(h:ax (xs.length+s.length)):lQ (((),(s,())),(xs,(((),((),())),())))=some (((),((s.length:Int),((),()))),(xs++bytesOf s,(((),((),())),()))):=by
 simp only[lQ];rw[dt (by decide) (by rw[iG];exact h)]
 rfl
theorem Ic{n:Int}(h:-9223372036854775808<=n/\n<=9223372036854775807):(if-9223372036854775808<=n/\n<=9223372036854775807 then some () else none)=some ():=if_pos h
theorem ady(t:List az)(hb:iu t):f120 ((t,()),())=some (((bif dC t then eM t else []),()),()):=by
 have h0:=pv ((t,()),()) hb;simp only[f120,h0,Option.bind_some];cases fl:dC t with
 |false=>rfl
 |true=>
  have hl:=kM fl;have XG:=w3 fl;have hm:∀e,e∈t->od e:=fun e he=>FI (XG e he)
  have aD:Fu (((),(t,((t.length:Int),((0:Int),())))),(([]:List Int),(((),((),())),())))=some (((),()),(bytesOf (eM t),(((),((),())),()))):=by
   refine fo (g:=yq) (fun i=>(((),(t,((t.length:Int),((i:Int),())))),(bytesOf ((t.take i).flatMap eE),(((),((),())),())))) t.length (fun i hi=>?_) ?_ t.length 0 (by omega)
   ·obtain⟨e,he⟩:∃e,t[i]? =some e:=⟨t[i],List.getElem?_eq_getElem hi⟩;have d':=List.mem_of_getElem? he;have ia:=Mz hm hb hl i;have gO:=Ek (hm e d') (hb.2 e d');have h1:=G_ (hm e d');have h2:=om e.text.length (by have:=(hb.2 e d').2;omega)
    have h3:=(hb.2 e d').1;have aE:=(hb.2 e d').2;have aAr:=hm e d';have i1:=Ic (n:=e.mode) ⟨by omega,by omega⟩
    have i2:=Ic (n:=(e.text.length:Int)) ⟨by omega,by omega⟩
    rw[ml eE he,oh];simp only[yq,cq hi,cond_true,bY,he,Option.bind_some,i1,i2,b4 (i:=i) (by unfold ax;omega)]
    generalize List.flatMap eE (List.take i t)=A at ia ⊢;rcases xd (XG e d') with hk|hk|hk
    ·have e1:eE e=[100,105,114,32]++Lib.itoa e.mode++[32]++e.path++[10]:=by unfold eE;rw[hk];rfl
     rw[hk,show((1:Int)==1)=true from rfl,cond_true,e1]
     repeat(rw[dA (by simp;omega),Option.bind_some])
     rw[ox _ _ (by unfold ax;rw[iG];simp;omega)]
     rfl
    ·have e1:eE e=[102,105,108,101,32]++Lib.itoa e.mode++[32]++e.path++[32]++Lib.itoa (e.text.length:Int)++[10]++(e.text++[10]):=by unfold eE;rw[hk];simp
     rw[hk,show((2:Int)==1)=false from rfl,show((2:Int)==2)=true from rfl,cond_false,cond_true,e1]
     repeat(rw[dA (by simp;omega),Option.bind_some])
     rw[ox _ _ (by unfold ax;rw[iG];simp;omega),Option.bind_some]
     rw[dA (by simp;omega),Option.bind_some]
     rw[ox _ _ (by unfold ax;simp[iG];omega),oh _ (e.text++[10]),<-List.append_assoc]
     rfl
    ·have e1:eE e=[108,105,110,107,32]++e.path++[32]++e.text++[10]:=by unfold eE;rw[hk];rfl
     rw[hk,show((3:Int)==1)=false from rfl,show((3:Int)==2)=false from rfl,show((3:Int)==3)=true from rfl,cond_false,cond_false,cond_true,e1]
     repeat(rw[dA (by simp;omega),Option.bind_some])
     rw[ox _ _ (by unfold ax;rw[iG];simp;omega)]
     rfl
   ·simp only[yq,dd,cond_false,List.take_length];rfl
  simp only[Bool.not_true,cond_false,cond_true,aD,Option.bind_some,tJ]
noncomputable abbrev atb:a7:=[(102,vw)]
theorem atV:aQ O (aY ad atb):=aV ⟨Bv,⟨⟩⟩
abbrev i119:Shape:=⟨[b5 0 [ah,aX,ah]],[],34⟩
abbrev W':Shape:=⟨[ak 2],[],34⟩
noncomputable def f119(a:i119.F):Option W'.F:=
(f102 (((a.1.1.1,a.1.1.2.1,a.1.1.2.2.1,()),()),())).bind fun b=>
 bif(!b.1.1) then
 some ((([]:J),()),())
else
 bif(a.1.1.2.1==(1:Int)) then
(bX a.1.1.1 ([61]:J)).bind fun c=>
(bX c a.1.1.2.2.1).bind fun d=>
 some ((d,()),())
else
 bif(a.1.1.2.1==(2:Int)) then
(bX a.1.1.1 ([62,61]:J)).bind fun e=>
(bX e a.1.1.2.2.1).bind fun f=>
 some ((f,()),())
else
 bif(a.1.1.2.1==(3:Int)) then
(bX a.1.1.1 ([60]:J)).bind fun g=>
(bX g a.1.1.2.2.1).bind fun h=>
 some ((h,()),())
else
 some ((a.1.1.1,()),())
noncomputable def Ze:aB:=aG ad Tryz.f119 i119 W' [] f119
theorem z119:ay O 119 Ze:=aJ atV Tryz.func119 (by kernel_rfl) af (fun y=>by kernel_rfl) fun a=>by kernel_rfl
abbrev i225:Shape:=⟨[ag 0],[],10⟩
abbrev VW:Shape:=⟨[ak 2],[],10⟩
noncomputable def f225(a:i225.F):Option VW.F:=
 bif(a.1.1==(1:Int)) then
 some ((([61]:J),()),())
else
 bif(a.1.1==(2:Int)) then
 some ((([62,61]:J),()),())
else
 bif(a.1.1==(3:Int)) then
 some ((([60]:J),()),())
else
 some ((([]:J),()),())
noncomputable def JI:aB:=aG ad Tryz.f225 i225 VW [] f225
theorem Ve:ay O 225 JI:=aJ g0 Tryz.func225 (by kernel_rfl) af (fun y=>by kernel_rfl) fun a=>by kernel_rfl
noncomputable abbrev asf:a7:=[(225,JI)]
theorem aty:aQ O (aY ad asf):=aV ⟨Ve,⟨⟩⟩
abbrev i218:Shape:=⟨[b5 0 [ah,aX,ah]],[],12⟩
abbrev V2:Shape:=⟨[ak 2],[],12⟩
noncomputable def f218(a:i218.F):Option V2.F:=
(f225 ((a.1.1.2.1,()),())).bind fun b=>
(bX a.1.1.1 b.1.1).bind fun c=>
(bX c a.1.1.2.2.1).bind fun d=>
 some ((d,()),())
noncomputable def JK:aB:=aG ad Tryz.f218 i218 V2 [] f218
theorem z218:ay O 218 JK:=aJ aty Tryz.func218 (by kernel_rfl) af (fun y=>by kernel_rfl) fun a=>by kernel_rfl
noncomputable abbrev asD:a7:=[(181,JQ),(218,JK)]
theorem Zy:aQ O (aY ad asD):=aV ⟨Vj,z218,⟨⟩⟩
abbrev yS:Shape:=⟨[au 1 1 0,ak 3,ag 4],[ar 1 [ah,ah,bl .need,bl .entry]],36⟩
abbrev Gc:List aO:=[(.exit 0,⟨[au 1 1 0,ak 3],[ar 1 [ah,ah,bl .need,bl .entry]],36⟩)]
noncomputable def zw(y:yS.F):bD yS Gc:=
 bif(decide (y.1.2.2.1<(y.2.1.2.2.1.length:Int))) then
(bX y.1.2.1 ([110,101,101,100,32]:J)).bind fun a=>
(aN y.2.1.2.2.1 y.1.2.2.1).bind fun b=>
(f218 (((b.name,b.kind,b.bf,()),()),())).bind fun c=>
(bX a c.1.1).bind fun d=>
(bX d ([10]:J)).bind fun e=>
 some (.inl (((),e,(IntKind.i64.wrap (y.1.2.2.1+(1:Int))),()),(y.2.1.1,y.2.1.2.1,y.2.1.2.2.1,y.2.1.2.2.2.1,()),()))
else
 some (.inr (((),y.1.2.1,()),(y.2.1.1,y.2.1.2.1,y.2.1.2.2.1,y.2.1.2.2.2.1,()),()))
noncomputable def GV:yS.F->Option (aA Gc):=bo zw
theorem akC:aT O (an (codeOf Tryz.f172) 1 58) (aU yS Gc GV):=bE Zy (by kernel_rfl) af fun y=>by kernel_rfl
abbrev i172:Shape:=⟨[b5 0 [ah,ah,bl .need,bl .entry]],[],36⟩
abbrev Wx:Shape:=⟨[ak 2],[],36⟩
noncomputable def f172(a:i172.F):Option Wx.F:=
(bX ([112,97,99,107,32]:J) a.1.1.1).bind fun b=>
(bX b ([32]:J)).bind fun c=>
(bX c a.1.1.2.1).bind fun d=>
(bX d ([10]:J)).bind fun e=>
(GV (((),e,(0:Int),()),(a.1.1.1,a.1.1.2.1,a.1.1.2.2.1,a.1.1.2.2.2.1,()),())).bind fun f=>
(bX f.1.2.1 ([10]:J)).bind fun g=>
(f181 ((f.2.1.2.2.2.1,()),())).bind fun h=>
(bX g h.1.1).bind fun i=>
 some ((i,()),())
noncomputable def YL:aB:=aG ad Tryz.f172 i172 Wx [] f172
theorem ap8:ay O 172 YL:=aJ Zy Tryz.func172 (by kernel_rfl) (a6 akC af) (fun y=>by kernel_rfl) fun a=>by kernel_rfl
noncomputable abbrev as8:a7:=[(172,YL),(173,YK)]
theorem atU:aQ O (aY ad as8):=aV ⟨ap8,z173,⟨⟩⟩
abbrev i123:Shape:=⟨[b5 0 [ah,ah,bl .need,bl .entry]],[],12⟩
abbrev W8:Shape:=⟨[ak 2],[],12⟩
noncomputable def f123(a:i123.F):Option W8.F:=
(f172 (((a.1.1.1,a.1.1.2.1,a.1.1.2.2.1,a.1.1.2.2.2.1,()),()),())).bind fun b=>
(f173 ((b.1.1,()),())).bind fun c=>
(bX ([115,117,109,32]:J) c.1.1).bind fun d=>
(bX d ([10]:J)).bind fun e=>
(bX e b.1.1).bind fun f=>
 some ((f,()),())
noncomputable def JZ:aB:=aG ad Tryz.f123 i123 W8 [] f123
theorem Vn:ay O 123 JZ:=aJ atU Tryz.func123 (by kernel_rfl) af (fun y=>by kernel_rfl) fun a=>by kernel_rfl
noncomputable abbrev axy:a7:=[(63,Bp),(119,Ze),(120,Zd)]
theorem abi:aQ O (aY ad axy):=aV ⟨Iv,z119,aqq,⟨⟩⟩
abbrev yv:Shape:=⟨[au 1 1 0,au 3 3 0,aK 16 .need,ag 17,ag 18],[ar 1 [ah,ah,bl .need,bl .entry],bm 5000193 .u8 3 1,ar 3 [.dh,.own 5000193]],34⟩
abbrev FT:List aO:=[(.exit 0,⟨[au 1 1 0,au 3 3 0],[ar 1 [ah,ah,bl .need,bl .entry],bm 5000193 .u8 3 1,ar 3 [.dh,.own 5000193]],34⟩)]
noncomputable def zm(y:yv.F):bD yv FT:=
 bif(decide (y.1.2.2.2.2.1<y.1.2.2.2.1)) then
(aN y.1.2.2.1 y.1.2.2.2.2.1).bind fun a=>
(f119 (((a.name,a.kind,a.bf,()),()),())).bind fun b=>
(bX ([110,101,101,100,32]:J) b.1.1).bind fun c=>
(bX c ([10]:J)).bind fun d=>
(lQ (((),d,()),y.2.2.1,((),(),()),())).bind fun e=>
 some (.inl (((),(),y.1.2.2.1,y.1.2.2.2.1,(IntKind.i64.wrap (y.1.2.2.2.2.1+(1:Int))),()),(y.2.1.1,y.2.1.2.1,y.2.1.2.2.1,y.2.1.2.2.2.1,()),e.2.1,((),(),()),()))
else
 some (.inr (((),(),()),(y.2.1.1,y.2.1.2.1,y.2.1.2.2.1,y.2.1.2.2.2.1,()),y.2.2.1,((),(),()),()))
noncomputable def GJ:yv.F->Option (aA FT):=bo zm
theorem aj6:aT O (an (codeOf Tryz.f68) 1 122) (aU yv FT GJ):=bE abi (by kernel_rfl) af fun y=>by kernel_rfl
abbrev i68:Shape:=⟨[b5 0 [ah,ah,bl .need,bl .entry]],[],34⟩
abbrev _o:Shape:=⟨[ak 2],[],34⟩
noncomputable def f68(a:i68.F):Option _o.F:=
(bX ([112,97,99,107,32]:J) a.1.1.1).bind fun b=>
(bX b ([32]:J)).bind fun c=>
(bX c a.1.1.2.1).bind fun d=>
(bX d ([10]:J)).bind fun e=>
(lQ (((),e,()),([]:List Int),((),(),()),())).bind fun f=>
(GJ (((),(),a.1.1.2.2.1,(a.1.1.2.2.1.length:Int),(0:Int),()),(a.1.1.1,a.1.1.2.1,a.1.1.2.2.1,a.1.1.2.2.2.1,()),f.2.1,((),(),()),())).bind fun g=>
(f120 ((g.2.1.2.2.2.1,()),())).bind fun h=>
(bX ([10]:J) h.1.1).bind fun i=>
(lQ (((),i,()),g.2.2.1,((),(),()),())).bind fun j=>
 some (((strOf j.2.1),()),())
noncomputable def aaQ:aB:=aG ad Tryz.f68 i68 _o [] f68
theorem aud:ay O 68 aaQ:=aJ abi Tryz.func68 (by kernel_rfl) (a6 aj6 af) (fun y=>by kernel_rfl) fun a=>by kernel_rfl
noncomputable abbrev axO:a7:=[(55,CP),(68,aaQ),(69,aaP)]
theorem ayf:aQ O (aY ad axO):=aV ⟨Ke,aud,auc,⟨⟩⟩
abbrev i36:Shape:=⟨[b5 0 [ah,ah,bl .need,bl .entry]],[],15⟩
abbrev _E:Shape:=⟨[ak 2],[],15⟩
noncomputable def f36(a:i36.F):Option _E.F:=
(f55 (((a.1.1.1,a.1.1.2.1,a.1.1.2.2.1,a.1.1.2.2.2.1,()),()),())).bind fun b=>
 bif(!b.1.1) then
 some ((([]:J),()),())
else
(f68 (((a.1.1.1,a.1.1.2.1,a.1.1.2.2.1,a.1.1.2.2.2.1,()),()),())).bind fun c=>
(f69 ((c.1.1,()),())).bind fun d=>
(bX ([115,117,109,32]:J) d.1.1).bind fun e=>
(bX e ([10]:J)).bind fun f=>
(bX f c.1.1).bind fun g=>
 some ((g,()),())
noncomputable def Lw:aB:=aG ad Tryz.f36 i36 _E [] f36
theorem ZW:ay O 36 Lw:=aJ ayf Tryz.func36 (by kernel_rfl) af (fun y=>by kernel_rfl) fun a=>by kernel_rfl
noncomputable abbrev axw:a7:=[(83,wk),(123,JZ)]
theorem abh:aQ O (aY ad axw):=aV ⟨B',Vn,⟨⟩⟩
abbrev Ad:Shape:=⟨[au 1 1 0,ak 3,ag 4],[ar 1 [bl .pack]],28⟩
abbrev HJ:List aO:=[(.exit 0,⟨[ak 3],[],28⟩)]
noncomputable def AF(y:Ad.F):bD Ad HJ:=
 bif(decide (y.1.2.2.1<(y.2.1.1.length:Int))) then
(aN y.2.1.1 y.1.2.2.1).bind fun a=>
(f123 (((a.name,a.bf,a.bj,a.bH,()),()),())).bind fun b=>
(f83 (((b.1.1.length:Int),()),())).bind fun c=>
(bX y.1.2.1 c.1.1).bind fun d=>
(bX d ([10]:J)).bind fun e=>
(bX e b.1.1).bind fun f=>
 some (.inl (((),f,(IntKind.i64.wrap (y.1.2.2.1+(1:Int))),()),(y.2.1.1,()),()))
else
 some (.inr ((y.1.2.1,()),()))
noncomputable def H7:Ad.F->Option (aA HJ):=bo AF
theorem amz:aT O (an (codeOf Tryz.f70) 1 58) (aU Ad HJ H7):=bE abh (by kernel_rfl) af fun y=>by kernel_rfl
abbrev i70:Shape:=⟨[b5 0 [bl .pack]],[],28⟩
abbrev _m:Shape:=⟨[ak 2],[],28⟩
noncomputable def f70(a:i70.F):Option _m.F:=
(H7 (((),([]:J),(0:Int),()),(a.1.1.1,()),())).bind fun b=>
 some ((b.1.1,()),())
noncomputable def CO:aB:=aG ad Tryz.f70 i70 _m [] f70
theorem z70:ay O 70 CO:=aJ abh Tryz.func70 (by kernel_rfl) (a6 amz af) (fun y=>by kernel_rfl) fun a=>by kernel_rfl
noncomputable abbrev axN:a7:=[(30,wl),(70,CO)]
theorem aye:aQ O (aY ad axN):=aV ⟨Ca,z70,⟨⟩⟩
abbrev i37:Shape:=⟨[b5 0 [bl .pack]],[],8⟩
abbrev _D:Shape:=⟨[ak 2],[],8⟩
noncomputable def f37(a:i37.F):Option _D.F:=
(f30 (((a.1.1.1,()),()),())).bind fun b=>
 bif(!b.1.1) then
 some ((([]:J),()),())
else
(f70 (((a.1.1.1,()),()),())).bind fun c=>
 some ((c.1.1,()),())
noncomputable def aa1:aB:=aG ad Tryz.f37 i37 _D [] f37
theorem z37:ay O 37 aa1:=aJ aye Tryz.func37 (by kernel_rfl) af (fun y=>by kernel_rfl) fun a=>by kernel_rfl
def kX(k:Int):J:=bif k==1 then [61] else bif k==2 then [62,61] else bif k==3 then [60] else []
theorem Oz(k:Int):(kX k).length<=2:=by unfold kX;cases k==1<;>cases k==2<;>cases k==3<;>decide
def dV(n:bQ):J:=n.name++kX n.kind++n.bf
theorem ahw(k:Int):f225 ((k,()),())=some ((kX k,()),()):=by
 simp only[f225,kX];cases k==1<;>cases k==2<;>cases k==3<;>rfl
theorem Fa{n:bQ}(hb:wv n):(dV n).length<=4194306:=by
 have:=Oz n.kind;have h1:=hb.1;have h2:=hb.2;unfold dV;simp;omega
theorem ajQ(n:bQ)(hb:wv n):f218 (((n.name,(n.kind,(n.bf,()))),()),())=some ((dV n,()),()):=by
 have:=Oz n.kind;have h1:=hb.1;have h2:=hb.2;have avL:=ahw n.kind;simp only[f218,avL,Option.bind_some];rw[dA (by omega),Option.bind_some,dA (by simp;omega)]
 rfl
theorem aeY{n:bQ}(h:dR n=true)(h1:(n.kind==1)=false)(h2:(n.kind==2)=false)(h3:(n.kind==3)=false):n.bf=[]:=by
 unfold dR at h;simp only[Bool.and_eq_true,Bool.or_eq_true] at h;rcases h.2 with h|h
 ·exact eq_of_beq h.2
 ·have:=xN h.1;simp at h1 h2 h3;omega
theorem afO(n:bQ)(hb:wv n)(fl:dR n=true):f119 (((n.name,(n.kind,(n.bf,()))),()),())=some ((dV n,()),()):=by
 have h0:=xi (((n.name,(n.kind,(n.bf,()))),()),()) hb.1 hb.2;have h0:f102 (((n.name,(n.kind,(n.bf,()))),()),())=some ((dR n,()),()):=h0;have h1:=hb.1;have h2:=hb.2;simp only[f119,h0,fl,Option.bind_some,Bool.not_true,cond_false,dV,kX];cases aD:(n.kind==1) with
 |true=>
  simp only[cond_true];rw[dA (by simp;omega),Option.bind_some,dA (by simp;omega)]
  rfl
 |false=>
  cases aF:(n.kind==2) with
  |true=>
   simp only[cond_true,cond_false];rw[dA (by simp;omega),Option.bind_some,dA (by simp;omega)]
   rfl
  |false=>
   cases bI:(n.kind==3) with
   |true=>
    simp only[cond_true,cond_false];rw[dA (by simp;omega),Option.bind_some,dA (by simp;omega)]
    rfl
   |false=>simp only[cond_false,aeY fl aD aF bI,List.append_nil]
def dm(n:bQ):J:=[110,101,101,100,32]++dV n++[10]
theorem agJ{n:bQ}(hb:wv n):(dm n).length<=4194312:=by
 have:=Fa hb;unfold dm;simp;omega
def h6(p:aS):J:=[112,97,99,107,32]++p.name++[32]++p.bf++[10]
def eg(p:aS):J:=h6 p++p.bj.flatMap dm++[10]++eM p.bH
def cE(p:aS):J:=[115,117,109,32]++oR (eg p)++[10]++eg p
def dU(s:J):J:=Lib.itoa (s.length:Int)++[10]++s
def dZ(ps:List aS):J:=ps.flatMap fun p=>dU (cE p)
theorem pr{p:aS}(h:ct p=true):hZ p.name=true/\dY p.bf=true/\(∀n,n∈p.bj->dR n=true)/\p.bj.length<=6/\jr [] (p.name::p.bj.map (·.name))=false/\dC p.bH=true:=by
 unfold ct at h;simp only[Bool.and_eq_true] at h;obtain⟨⟨⟨h1,h2⟩,h3⟩,aE⟩:=h;unfold pQ at h3;simp only[Bool.and_eq_true,decide_eq_true_eq,List.all_eq_true,Bool.not_eq_true'] at h3;exact⟨h1,h2,h3.1.1,h3.1.2,h3.2,aE⟩
theorem xj{t:List az}(h:dC t=true):∀e,e∈t->od e:=fun e he=>FI (w3 h e he)
theorem tH{ns:List bQ}(hb:sT ns)(hl:ns.length<=6)(i:Nat):((ns.take i).flatMap dm).length<=25165872:=by
 have h1:=rA (f:=dm) (xs:=ns.take i) (n:=4194312) fun n hn=>agJ (hb.2 n (pz hn))
 have h2:=(List.take_sublist i ns).length_le;exact Nat.le_trans h1 (by omega)
theorem EH{p:aS}(hb:jB p)(hk:ct p=true):(eg p).length<=100663296:=by
 obtain⟨_,_,_,ca,_,aw⟩:=pr hk;have h1:=tH hb.2.2.1 ca p.bj.length;rw[List.take_length] at h1;have h2:=w_ (xj aw) hb.2.2.2 (kM aw);have h3:=hb.1;have aE:=hb.2.1;unfold eg h6;generalize p.bj.flatMap dm=A at h1 ⊢;generalize eM p.bH=bn at h2 ⊢;simp;omega
theorem x'{p:aS}(hb:jB p)(hk:ct p=true):(cE p).length<=100663400:=by
 have:=EH hb hk;unfold cE;generalize eg p=bn at this ⊢;simp[E7];omega
theorem ahv(p:aS)(hb:jB p)(hk:ct p=true):f172 (((p.name,(p.bf,(p.bj,(p.bH,())))),()),())=some ((eg p,()),()):=by
 obtain⟨_,_,hn,ca,_,aw⟩:=pr hk;have h3:=hb.1;have aE:=hb.2.1;have C3:=afD p.bH (xj aw) hb.2.2.2 (kM aw);have av7:(h6 p).length<=4194320:=by unfold h6;simp;omega
 have aD:GV (((),(h6 p,((0:Int),()))),((p.name,(p.bf,(p.bj,(p.bH,())))),()))=some (((),(h6 p++p.bj.flatMap dm,())),((p.name,(p.bf,(p.bj,(p.bH,())))),())):=by
  have:=fo (g:=zw) (fun i=>(((),(h6 p++(p.bj.take i).flatMap dm,((i:Int),()))),((p.name,(p.bf,(p.bj,(p.bH,())))),()))) p.bj.length (b:=(((),(h6 p++p.bj.flatMap dm,())),((p.name,(p.bf,(p.bj,(p.bH,())))),()))) (fun i hi=>?_) ?_ p.bj.length 0 (by omega)
  ·rw[List.take_zero,List.flatMap_nil,List.append_nil] at this;exact this
  ·obtain⟨n,he⟩:∃n,p.bj[i]? =some n:=⟨p.bj[i],List.getElem?_eq_getElem hi⟩;have d':=List.mem_of_getElem? he;have ia:=tH hb.2.2.1 ca i;have gO:=Fa (hb.2.2.1.2 n d');simp only[zw,cq hi,cond_true,bY,he,Option.bind_some,ajQ n (hb.2.2.1.2 n d'),ml dm he,b4 (i:=i) (by unfold ax;omega)]
   generalize List.flatMap dm (List.take i p.bj)=A at ia ⊢;rw[dA (by simp;omega),Option.bind_some,dA (by simp;omega),Option.bind_some,dA (by simp;omega),Option.bind_some]
   simp only[dm,List.append_assoc]
  ·simp only[zw,dd,cond_false,List.take_length]
 have ia:=tH hb.2.2.1 ca p.bj.length;rw[List.take_length] at ia;have h2:=w_ (xj aw) hb.2.2.2 (kM aw);have bJ:h6 p=[112,97,99,107,32]++p.name++[32]++p.bf++[10]:=rfl;simp only[f172];repeat(rw[dA (by simp;omega),Option.bind_some])
 rw[<-bJ,aD];simp only[Option.bind_some,eg];generalize p.bj.flatMap dm=A at ia ⊢;rw[dA (by simp;omega),Option.bind_some,C3,Option.bind_some]
 generalize eM p.bH=bn at h2 ⊢;rw[dA (by simp;omega)]
 rfl
theorem ajP(p:aS)(hb:jB p)(hk:ct p=true):f123 (((p.name,(p.bf,(p.bj,(p.bH,())))),()),())=some ((cE p,()),()):=by
 have hl:=EH hb hk;have h1:=aoj (eg p) (by unfold pn;omega)
 have hs:=E7 (eg p);simp only[f123,ahv p hb hk,h1,Option.bind_some,cE];generalize oR (eg p)=S at hs ⊢;generalize eg p=bn at hl ⊢;rw[dA (by simp;omega),Option.bind_some,dA (by simp;omega),Option.bind_some,dA (by simp;omega)]
 rfl
theorem aep(p:aS)(hb:jB p)(hk:ct p=true):f68 (((p.name,(p.bf,(p.bj,(p.bH,())))),()),())=some ((eg p,()),()):=by
 obtain⟨_,_,hn,ca,_,aw⟩:=pr hk;have h3:=hb.1;have aE:=hb.2.1;have C3:=ady p.bH hb.2.2.2;rw[aw] at C3;have av7:(h6 p).length<=4194320:=by unfold h6;simp;omega
 have aD:GJ (((),((),(p.bj,((p.bj.length:Int),((0:Int),()))))),((p.name,(p.bf,(p.bj,(p.bH,())))),(bytesOf (h6 p),(((),((),())),()))))=some (((),((),())),((p.name,(p.bf,(p.bj,(p.bH,())))),(bytesOf (h6 p++p.bj.flatMap dm),(((),((),())),())))):=by
  have:=fo (g:=zm) (fun i=>(((),((),(p.bj,((p.bj.length:Int),((i:Int),()))))),((p.name,(p.bf,(p.bj,(p.bH,())))),(bytesOf (h6 p++(p.bj.take i).flatMap dm),(((),((),())),()))))) p.bj.length (b:=(((),((),())),((p.name,(p.bf,(p.bj,(p.bH,())))),(bytesOf (h6 p++p.bj.flatMap dm),(((),((),())),()))))) (fun i hi=>?_) ?_ p.bj.length 0 (by omega)
  ·rw[List.take_zero,List.flatMap_nil,List.append_nil] at this;exact this
  ·obtain⟨n,he⟩:∃n,p.bj[i]? =some n:=⟨p.bj[i],List.getElem?_eq_getElem hi⟩;have d':=List.mem_of_getElem? he;have ia:=tH hb.2.2.1 ca i;have gO:=Fa (hb.2.2.1.2 n d');simp only[zm,cq hi,cond_true,bY,he,Option.bind_some,afO n (hb.2.2.1.2 n d') (hn n d'),ml dm he,b4 (i:=i) (by unfold ax;omega)]
   generalize List.flatMap dm (List.take i p.bj)=A at ia ⊢;rw[dA (by simp;omega),Option.bind_some,dA (by simp;omega),Option.bind_some,ox _ _ (by unfold ax;rw[iG];simp;omega),Option.bind_some,<-List.append_assoc,oh (h6 p++A)]
   rfl
  ·simp only[zm,dd,cond_false,List.take_length]
 have ia:=tH hb.2.2.1 ca p.bj.length;rw[List.take_length] at ia;have h2:=w_ (xj aw) hb.2.2.2 (kM aw);have bJ:h6 p=[112,97,99,107,32]++p.name++[32]++p.bf++[10]:=rfl;simp only[f68];repeat(rw[dA (by simp;omega),Option.bind_some])
 rw[<-bJ,ox _ _ (by unfold ax;simp;omega),Option.bind_some]
 simp only[List.nil_append,aD,Option.bind_some,C3,cond_true,eg];generalize p.bj.flatMap dm=A at ia ⊢;generalize eM p.bH=bn at h2 ⊢;rw[dA (by simp;omega),Option.bind_some,ox _ _ (by unfold ax;rw[iG];simp;omega),Option.bind_some]
 rw[<-oh,tJ,List.append_assoc _ [10] bn]
theorem DB(p:aS)(hb:jB p):f36 (((p.name,(p.bf,(p.bj,(p.bH,())))),()),())=some ((bif ct p then cE p else [],()),()):=by
 have h0:=xh (((p.name,(p.bf,(p.bj,(p.bH,())))),()),()) hb;have h0:f55 (((p.name,(p.bf,(p.bj,(p.bH,())))),()),())=some ((ct p,()),()):=h0;simp only[f36,h0,Option.bind_some];cases hk:ct p with
 |false=>rfl
 |true=>
  have hl:=EH hb hk;have h1:=ame (eg p) (by unfold pn;omega)
  have hs:=E7 (eg p);simp only[Bool.not_true,cond_false,cond_true,aep p hb hk,h1,Option.bind_some,cE];generalize oR (eg p)=S at hs ⊢;generalize eg p=bn at hl ⊢;rw[dA (by simp;omega),Option.bind_some,dA (by simp;omega),Option.bind_some,dA (by simp;omega)]
  rfl
theorem Ec{p:aS}(hb:jB p)(hk:ct p=true):(dU (cE p)).length<=100663500:=by
 have h1:=x' hb hk;have h2:=om (cE p).length (by omega)
 unfold dU;simp;omega
theorem acq{ps:List aS}(hb:fj ps)(hk:∀p,p∈ps->ct p=true)(i:Nat):((ps.take i).flatMap fun p=>dU (cE p)).length<=211106660352000:=by
 have h1:=rA (f:=fun p=>dU (cE p)) (xs:=ps.take i) (n:=100663500) fun p hp=>Ec (hb.2 p (pz hp)) (hk p (pz hp))
 have h2:=(List.take_sublist i ps).length_le;have h3:ps.length<=2097152:=hb.1;have aE:(ps.take i).length*100663500<=2097152*100663500:=Nat.mul_le_mul_right _ (by omega)
 omega
theorem ajO(ps:List aS)(hb:fj ps)(hk:∀p,p∈ps->ct p=true):f70 (((ps,()),()),())=some ((dZ ps,()),()):=by
 have aD:H7 (((),(([]:J),((0:Int),()))),((ps,()),()))=some ((dZ ps,()),()):=by
  refine fo (g:=AF) (fun i=>(((),((ps.take i).flatMap (fun p=>dU (cE p)),((i:Int),()))),((ps,()),()))) ps.length (fun i hi=>?_) ?_ ps.length 0 (by omega)
  ·obtain⟨p,he⟩:∃p,ps[i]? =some p:=⟨ps[i],List.getElem?_eq_getElem hi⟩;have d':=List.mem_of_getElem? he;have ia:=acq hb hk i;have gO:=x' (hb.2 p d') (hk p d');have h2:=om (cE p).length (by omega)
   have nR:=hb.1;simp only[AF,cq hi,cond_true,bY,he,Option.bind_some,ajP p (hb.2 p d') (hk p d'),FR (cE p).length (by omega),ml (fun p=>dU (cE p)) he,b4 (i:=i) (by unfold ax;omega)]
   generalize List.flatMap (fun p=>dU (cE p)) (List.take i ps)=A at ia ⊢
   rw[dA (by omega),Option.bind_some,dA (by simp;omega),Option.bind_some,dA (by simp;omega),Option.bind_some]
   simp only[dU,List.append_assoc]
  ·simp only[AF,dd,cond_false,List.take_length];rfl
 simp only[f70,aD,Option.bind_some]
theorem og{ps:List aS}(h:fP ps=true):(∀p,p∈ps->ct p=true)/\ps.length<=5:=by
 unfold fP at h;simp only[Bool.and_eq_true,decide_eq_true_eq,List.all_eq_true] at h;exact⟨h.1.1.1.1,h.1.1.2⟩
theorem afN(ps:List aS)(hb:fj ps)(hv:j7 ps):f37 (((ps,()),()),())=some ((bif fP ps then dZ ps else [],()),()):=by
 have h0:=Pu (((ps,()),()),()) hb hv;have h0:f30 (((ps,()),()),())=some ((fP ps,()),()):=h0;simp only[f37,h0,Option.bind_some];cases hr:fP ps with
 |false=>rfl
 |true=>simp only[Bool.not_true,cond_false,cond_true,ajO ps hb (og hr).1,Option.bind_some]
def cF(c:UInt8)(s:J):Prop:=∀x,x∈s->x≠c
theorem cF.cW{c:UInt8}{s t:J}(h:cF c s)(k:cF c t):cF c (s++t):=fun x hx=>(List.mem_append.1 hx).elim (h x) (k x)
theorem cF.nil(c:UInt8):cF c []:=fun x hx=>by cases hx
theorem cF.tail{c b:UInt8}{s:J}(h:cF c (b::s)):cF c s:=fun x hx=>h x (List.mem_cons_of_mem _ hx)
theorem cF.head{c b:UInt8}{s:J}(h:cF c (b::s)):(b==c)=false:=by
 have:=h b List.mem_cons_self;simpa using this
theorem cF.lit{c:UInt8}{s:J}(h:s.all (fun x=>!(x==c))=true):cF c s:=fun x hx=>by
 have:=List.all_eq_true.1 h x hx;simpa using this
theorem Oy{c:UInt8}:∀{s:J},cF c s->bC c s=[s]:=by
 intro s;induction s with
 |nil=>intro _;rfl
 |cons b r ih=>
  intro h;unfold bC;rw[h.head,ih h.tail];rfl
theorem M4(c b:UInt8)(r:J):bC c (b::r)=bif b==c then []::bC c r else match bC c r with|x::xs=>(b::x)::xs|[]=>[[b]]:=rfl
theorem ND{c:UInt8}{b:J}:∀{a:J},cF c a->bC c (a++c::b)=a::bC c b:=by
 intro a;induction a with
 |nil=>intro _;show bC c (c::b)=_;rw[M4,beq_self_eq_true];rfl
 |cons x r ih=>
  intro h;show bC c (x::(r++c::b))=_;rw[M4,h.head,ih h.tail];rfl
theorem NB{c x:UInt8}:∀{s:J},x∈s->x≠c->∃p,p∈bC c s/\x∈p:=by
 intro s;induction s with
 |nil=>intro h;cases h
 |cons b r ih=>
  intro h hx;unfold bC;cases hb:b==c with
  |true=>
   have hb:=eq_of_beq hb;rcases List.mem_cons.1 h with rfl|h
   ·exact absurd hb hx
   ·obtain⟨p,h1,h2⟩:=ih h hx;exact⟨p,List.mem_cons_of_mem _ h1,h2⟩
  |false=>
   simp only[cond_false];have hne:=oi c r;split
   ·rename_i y bg hy;rcases List.mem_cons.1 h with rfl|h
    ·exact⟨_,List.mem_cons_self,List.mem_cons_self⟩
    ·obtain⟨p,h1,h2⟩:=ih h hx;rw[hy] at h1;rcases List.mem_cons.1 h1 with rfl|h1
     ·exact⟨_,List.mem_cons_self,List.mem_cons_of_mem _ h2⟩
     ·exact⟨p,List.mem_cons_of_mem _ h1,h2⟩
   ·rename_i hy;exact absurd hy hne
def dJ(c:UInt8):J->Option (J×J)
 |[]=>none
 |b::r=>bif b==c then some ([],r) else match dJ c r with
  |some (x,y)=>some (b::x,y)
  |none=>none
theorem tZ{c:UInt8}{b:J}:∀{a:J},cF c a->dJ c (a++c::b)=some (a,b):=by
 intro a;induction a with
 |nil=>intro _;simp[dJ]
 |cons x r ih=>intro h;show dJ c (x::(r++c::b))=_;simp only[dJ,h.head,cond_false,ih h.tail]
theorem kQ{c:UInt8}:∀{s x y:J},dJ c s=some (x,y)->s=x++c::y/\cF c x:=by
 intro s;induction s with
 |nil=>intro x y h;cases h
 |cons b r ih=>
  intro x y h;simp only[dJ] at h;cases hb:b==c with
  |true=>
   rw[hb] at h;simp only[cond_true,Option.some.injEq,Prod.mk.injEq] at h;obtain⟨rfl,rfl⟩:=h;exact⟨by rw[eq_of_beq hb];rfl,cF.nil c⟩
  |false=>
   rw[hb] at h;simp only[cond_false] at h;split at h
   ·rename_i hU y' hc;cases h;obtain⟨h1,h2⟩:=ih hc;refine⟨by rw[h1];rfl,fun z hz=>?_⟩
    rcases List.mem_cons.1 hz with rfl|hz
    ·simpa using hb
    ·exact h2 z hz
   ·cases h
theorem ahh{c:UInt8}:∀{s:J},dJ c s=none->cF c s:=by
 intro s;induction s with
 |nil=>intro _;exact cF.nil c
 |cons b r ih=>
  intro h;simp only[dJ] at h;cases hb:b==c with
  |true=>rw[hb] at h;cases h
  |false=>
   rw[hb] at h;simp only[cond_false] at h;split at h
   ·cases h
   ·rename_i hc;intro z hz;rcases List.mem_cons.1 hz with rfl|hz
    ·simpa using hb
    ·exact ih hc z hz
theorem RQ(c:UInt8):∀s:J,Lib.indexByte s c=match dJ c s with|some (x,_)=>(x.length:Int)|none=>-1:=by
 intro s;induction s with
 |nil=>rfl
 |cons b r ih=>
  simp only[dJ];unfold Lib.indexByte;cases hb:b==c with
  |true=>simp
  |false=>
   rw[ih];simp only[cond_false];cases hc:dJ c r with
   |none=>simp
   |some q=>obtain⟨x,y⟩:=q;simp
theorem NC(c:UInt8)(s:J):bC c s=match dJ c s with|some (x,y)=>x::bC c y|none=>[s]:=by
 cases h:dJ c s with
 |none=>exact Oy (ahh h)
 |some q=>
  obtain⟨x,y⟩:=q;obtain⟨h1,h2⟩:=kQ h;show bC c s=x::bC c y;rw[h1];exact ND h2
theorem MJ{s:J}(h:hZ s=true):∀x,x∈s->(97<=x.toNat/\x.toNat<=122)\/(48<=x.toNat/\x.toNat<=57):=by
 cases s with
 |nil=>cases h
 |cons b r=>
  rw[M'] at h;simp only[Bool.and_eq_true] at h;intro x hx;have:=List.all_eq_true.1 h.1.2 x hx;simp only[iq,cK,Bool.or_eq_true,Bool.and_eq_true,decide_eq_true_eq] at this;omega
theorem OT{s:J}(h:hZ s=true){c:UInt8}(hc:c.toNat<48\/(57<c.toNat/\c.toNat<97)):cF c s:=fun x hx e=>by
 have:=MJ h x hx;rw[e] at this;omega
theorem acN{s:J}(h:dY s=true):∀x,x∈s->x=46\/(48<=x.toNat/\x.toNat<=57):=by
 intro x hx;by_cases he:x=46
 ·exact .inl he
 ·obtain⟨p,h1,h2⟩:=NB hx he;unfold dY hL at h;simp only[Bool.and_eq_true] at h;have:=List.all_eq_true.1 h.1 p h1;unfold e_ at this;simp only[Bool.and_eq_true] at this;have:=ig (List.all_eq_true.1 this.1.1.1.1 x h2);exact .inr (by omega)
theorem N6{s:J}(h:dY s=true){c:UInt8}(hc:c.toNat<48\/57<c.toNat)(Z:c≠46):cF c s:=fun x hx e=>by
 rcases acN h x hx with h1|h1
 ·exact Z (e▸h1)
 ·rw[e] at h1;omega
theorem OU{s:J}(h:fQ s=true){c:UInt8}(hc:jJ c.toNat=false)(Z:c≠47):cF c s:=fun x hx e=>by
 subst e;obtain⟨p,h1,h2⟩:=NB hx Z;unfold fQ at h;simp only[Bool.and_eq_true] at h;have:=List.all_eq_true.1 h.1 p h1;unfold jR at this;simp only[Bool.and_eq_true] at this;have:=List.all_eq_true.1 this.1.1.1 x h2;rw[hc] at this;cases this
theorem Sa:∀n:Nat,(Lib.decDigits n).all cK=true:=by
 intro n;induction n using Nat.strongRecOn with
 |_ n ih=>
  have Z:∀m:Nat,m<10->cK (UInt8.ofNat (48+m))=true:=fun m hm=>by
   unfold cK;have:(UInt8.ofNat (48+m)).toNat=48+m:=by rw[UInt8.toNat_ofNat'];omega
   rw[this];simp;omega
  rw[Lib.decDigits];split
  ·rename_i h;show(cK _&&true)=true;rw[Z n h];rfl
  ·rename_i h;rw[List.all_append,ih (n/10) (by omega)]
   show(true&&(cK _&&true))=true;rw[Z (n%10) (by omega)];rfl
theorem ani(n:Nat):Lib.decDigits n≠[]:=by
 rw[Lib.decDigits];split<;>simp
theorem R_:∀n:Nat,c5 (Lib.decDigits n)=(n:Int):=by
 intro n;induction n using Nat.strongRecOn with
 |_ n ih=>
  have Z:∀m:Nat,m<10->((UInt8.ofNat (48+m)).toNat:Int)-48=(m:Int):=fun m hm=>by
   have:(UInt8.ofNat (48+m)).toNat=48+m:=by rw[UInt8.toNat_ofNat'];omega
   rw[this];omega
  rw[Lib.decDigits];split
  ·rename_i h;show dT 0 _=_;unfold dT;rw[Z n h];omega
  ·rename_i h;have:=ih (n/10) (by omega)
   unfold c5 at this ⊢;rw[List.foldl_append,this];show dT _ _=_;unfold dT;rw[Z (n%10) (by omega)];omega
theorem ahg:∀n:Nat,1<=n->∃b r,Lib.decDigits n=b::r/\((b.toNat:Int)==48)=false:=by
 intro n;induction n using Nat.strongRecOn with
 |_ n ih=>
  intro hn;rw[Lib.decDigits];split
  ·rename_i h;refine⟨_,[],rfl,?_⟩;have:(UInt8.ofNat (48+n)).toNat=48+n:=by rw[UInt8.toNat_ofNat'];omega
   rw[this,beq_eq_false_iff_ne];omega
  ·rename_i h;obtain⟨b,r,h1,h2⟩:=ih (n/10) (by omega) (by omega)
   rw[h1];exact⟨b,_,rfl,h2⟩
theorem ajq(n:Nat):il (Lib.decDigits n)=false:=by
 by_cases h:n<10
 ·rw[Lib.decDigits,dif_pos h];rfl
 ·obtain⟨b,r,h1,h2⟩:=ahg n (by omega)
  rw[h1];cases r with
  |nil=>rfl
  |cons x r=>exact h2
theorem ajp:∀(k n:Nat),n<10^(k+1)->(Lib.decDigits n).length<=k+1:=by
 intro k;induction k with
 |zero=>intro n h;rw[Lib.decDigits,dif_pos (by omega)];simp
 |succ k ih=>
  intro n h;rw[Lib.decDigits];split
  ·simp
  ·have:=ih (n/10) (by rw[Nat.pow_succ] at h;omega)
   simp;omega
theorem anh(n:Nat){c:UInt8}(hc:c.toNat<48\/57<c.toNat):cF c (Lib.decDigits n):=fun x hx e=>by
 have:=ig (List.all_eq_true.1 (Sa n) x hx);rw[e] at this;omega
theorem RO(n:Nat){c:UInt8}(hc:c.toNat<48\/57<c.toNat):cF c (Lib.itoa (n:Int)):=by rw[tY];exact anh n hc
theorem alz:∀k:Nat,k<16->iR k≠10/\iR k≠32:=by decide
theorem RR(w:Int):cF 10 (ft w):=fun x hx=>by
 simp only[ft,List.mem_cons,List.not_mem_nil,or_false] at hx;rcases hx with rfl|rfl|rfl|rfl|rfl|rfl|rfl|rfl<;>exact(alz _ (Nat.mod_lt _ (by decide))).1
theorem ajX(s:J):cF 10 (oR s):=(RR _).cW (RR _)
def li:J:=[100,105,114]
def k1:J:=[108,105,110,107]
def k4:J:=[102,105,108,101]
def oz(e:az):List J:=bif e.kind==1 then [li,Lib.itoa e.mode,e.path] else bif e.kind==3 then [k1,e.path,e.text] else [k4,Lib.itoa e.mode,e.path,Lib.itoa (e.text.length:Int)]
def k2:List J->J
 |[]=>[]
 |[x]=>x
 |x::y::r=>x++32::k2 (y::r)
def su(e:az):J:=k2 (oz e)
theorem NN:∀{ws:List J},ws≠[]->(∀w,w∈ws->cF 32 w)->bC 32 (k2 ws)=ws:=by
 intro ws;induction ws with
 |nil=>intro h;exact absurd rfl h
 |cons x r ih=>
  intro _ h;cases r with
  |nil=>exact Oy (h x List.mem_cons_self)
  |cons y r=>
   show bC 32 (x++32::k2 (y::r))=_;rw[ND (h x List.mem_cons_self),ih (by simp) fun w hw=>h w (List.mem_cons_of_mem _ hw)]
theorem RN{c:UInt8}(hc:c≠32):∀{ws:List J},(∀w,w∈ws->cF c w)->cF c (k2 ws):=by
 intro ws;induction ws with
 |nil=>intro _;exact cF.nil c
 |cons x r ih=>
  intro h;cases r with
  |nil=>exact h x List.mem_cons_self
  |cons y r=>
   refine(h x List.mem_cons_self).cW fun z hz=>?_
   rcases List.mem_cons.1 hz with rfl|hz
   ·exact fun e=>hc e.symm
   ·exact ih (fun w hw=>h w (List.mem_cons_of_mem _ hw)) z hz
theorem afe{e:az}(h:eN e=true):fQ e.path=true:=by
 unfold eN at h;simp only[Bool.and_eq_true] at h;exact h.1
theorem NV{e:az}(h:eN e=true)(hk:e.kind=3):fQ e.text=true/\e.mode=0:=by
 unfold eN at h;rw[hk] at h;simp only[Bool.and_eq_true] at h;have h2:((e.mode==0)&&fQ e.text)=true:=h.2;simp only[Bool.and_eq_true,beq_iff_eq] at h2;exact⟨h2.2,h2.1⟩
theorem ahb{e:az}(h:eN e=true)(hk:e.kind=1):e.text=[]:=by
 unfold eN at h;rw[hk] at h;simp only[Bool.and_eq_true] at h;have h2:(within e.mode 0 7&&e.text==[])=true:=h.2;simp only[Bool.and_eq_true] at h2;exact eq_of_beq h2.2
theorem aff{e:az}(h:eN e=true)(hk:e.kind=2):oB e.text=true:=by
 unfold eN at h;rw[hk] at h;simp only[Bool.and_eq_true] at h;have h2:(within e.mode 0 7&&oB e.text)=true:=h.2;simp only[Bool.and_eq_true] at h2;exact h2.2
theorem P'{e:az}(h:eN e=true):∃n:Nat,e.mode=n/\n<=7:=by
 have:=FI h;obtain⟨n,hn⟩:=Int.eq_ofNat_of_zero_le this.1;exact⟨n,hn,by have:=this.2;omega⟩
theorem An{s:J}(h:fQ s=true):cF 32 s:=OU h (by decide) (by decide)
theorem Ao{s:J}(h:fQ s=true):cF 10 s:=OU h (by decide) (by decide)
theorem Ia(n:Nat):cF 32 (Lib.itoa (n:Int)):=RO n (by decide)
theorem At(n:Nat):cF 10 (Lib.itoa (n:Int)):=RO n (by decide)
theorem N3{e:az}(h:eN e=true):(∀w,w∈oz e->cF 32 w)/\∀w,w∈oz e->cF 10 w:=by
 obtain⟨n,hn,_⟩:=P' h;have hp:=afe h;unfold oz;rw[hn];rcases xd h with hk|hk|hk<;>rw[hk]
 ·refine⟨fun w hw=>?_,fun w hw=>?_⟩<;>have hw:w∈[li,Lib.itoa (n:Int),e.path]:=hw<;>simp only[List.mem_cons,List.not_mem_nil,or_false] at hw<;>rcases hw with rfl|rfl|rfl
  ·exact cF.lit (by decide)
  ·exact Ia n
  ·exact An hp
  ·exact cF.lit (by decide)
  ·exact At n
  ·exact Ao hp
 ·refine⟨fun w hw=>?_,fun w hw=>?_⟩<;>have hw:w∈[k4,Lib.itoa (n:Int),e.path,Lib.itoa (e.text.length:Int)]:=hw<;>simp only[List.mem_cons,List.not_mem_nil,or_false] at hw<;>rcases hw with rfl|rfl|rfl|rfl
  ·exact cF.lit (by decide)
  ·exact Ia n
  ·exact An hp
  ·exact Ia _
  ·exact cF.lit (by decide)
  ·exact At n
  ·exact Ao hp
  ·exact At _
 ·have aw:=(NV h hk).1;refine⟨fun w hw=>?_,fun w hw=>?_⟩<;>have hw:w∈[k1,e.path,e.text]:=hw<;>simp only[List.mem_cons,List.not_mem_nil,or_false] at hw<;>rcases hw with rfl|rfl|rfl
  ·exact cF.lit (by decide)
  ·exact An hp
  ·exact An aw
  ·exact cF.lit (by decide)
  ·exact Ao hp
  ·exact Ao aw
theorem aiW{e:az}(h:eN e=true):cF 10 (su e):=RN (by decide) (N3 h).2
def A_(e:az)(r:J):J:=bif e.kind==2 then e.text++10::r else r
theorem aiV{e:az}(h:eN e=true)(r:J):eE e++r=su e++10::A_ e r:=by
 unfold eE su oz A_;rcases xd h with hk|hk|hk<;>rw[hk]
 ·simp[k2,li]
 ·simp[k2,k4]
 ·simp[k2,k1]
theorem agV{e:az}(h:eN e=true)(r:J):dJ 10 (eE e++r)=some (su e,A_ e r):=by
 rw[aiV h];exact tZ (aiW h)
def pY:J:=[112,97,99,107]
def kZ:J:=[110,101,101,100]
def lP(p:aS):J:=k2 [pY,p.name,p.bf]
theorem aqY{s:J}(h:hZ s=true):cF 32 s:=OT h (by decide)
theorem Vv{s:J}(h:hZ s=true):cF 10 s:=OT h (by decide)
theorem aqB{s:J}(h:dY s=true):cF 32 s:=N6 h (by decide) (by decide)
theorem Vo{s:J}(h:dY s=true):cF 10 s:=N6 h (by decide) (by decide)
theorem ad7{p:aS}(h:ct p=true):bC 32 (lP p)=[pY,p.name,p.bf]:=by
 obtain⟨h1,h2,_⟩:=pr h;refine NN (by simp) fun w hw=>?_
 simp only[List.mem_cons,List.not_mem_nil,or_false] at hw;rcases hw with rfl|rfl|rfl
 ·exact cF.lit (by decide)
 ·exact aqY h1
 ·exact aqB h2
theorem ai6{p:aS}(h:ct p=true):cF 10 (lP p):=by
 obtain⟨h1,h2,_⟩:=pr h;refine RN (by decide) fun w hw=>?_
 simp only[List.mem_cons,List.not_mem_nil,or_false] at hw;rcases hw with rfl|rfl|rfl
 ·exact cF.lit (by decide)
 ·exact Vv h1
 ·exact Vo h2
def nz(p:aS):J:=p.bj.flatMap dm++10::eM p.bH
theorem FK(p:aS):eg p=lP p++10::nz p:=by
 unfold eg h6 lP nz;simp[k2,pY]
theorem Pj{p:aS}(h:ct p=true):dJ 10 (eg p)=some (lP p,nz p):=by rw[FK];exact tZ (ai6 h)
def Bz(p:aS):J:=[115,117,109,32]++oR (eg p)
theorem Rj(p:aS):cE p=Bz p++10::eg p:=by unfold cE Bz;simp
theorem aiJ(p:aS):dJ 10 (cE p)=some (Bz p,eg p):=by
 rw[Rj];exact tZ ((cF.lit (by decide)).cW (ajX _))
theorem MK{n:bQ}(h:dR n=true):hZ n.name=true/\((n.kind=0/\n.bf=[])\/((n.kind=1\/n.kind=2\/n.kind=3)/\dY n.bf=true)):=by
 unfold dR at h;simp only[Bool.and_eq_true,Bool.or_eq_true] at h;refine⟨h.1,?_⟩;rcases h.2 with h2|h2
 ·exact .inl ⟨eq_of_beq h2.1,eq_of_beq h2.2⟩
 ·exact .inr ⟨by have:=xN h2.1;omega,h2.2⟩
theorem ak5{n:bQ}(h:dR n=true):cF 10 (dV n):=by
 obtain⟨h1,h2⟩:=MK h;have hs:cF 10 (kX n.kind):=by unfold kX;cases n.kind==1<;>cases n.kind==2<;>cases n.kind==3<;>exact cF.lit (by decide)
 refine((Vv h1).cW hs).cW ?_
 rcases h2 with⟨_,h2⟩|⟨_,h2⟩
 ·rw[h2];exact cF.nil _
 ·exact Vo h2
theorem agK{n:bQ}(h:dR n=true)(r:J):dJ 10 (dm n++r)=some (kZ++32::dV n,r):=by
 have:dm n++r=(kZ++32::dV n)++10::r:=by unfold dm kZ;simp
 rw[this];refine tZ ((cF.lit (by decide)).cW fun z hz=>?_)
 rcases List.mem_cons.1 hz with rfl|hz
 ·decide
 ·exact ak5 h z hz
theorem HX(r:J):dJ 10 (10::r)=some ([],r):=by simp[dJ]
theorem agI{n:bQ}{ns:List bQ}{r:J}(h:dR n=true):dJ 10 ((n::ns).flatMap dm++r)=some (kZ++32::dV n,ns.flatMap dm++r):=by
 rw[List.flatMap_cons,List.append_assoc];exact agK h _
theorem af2(s r:J):dJ 10 (dU s++r)=some (Lib.itoa (s.length:Int),s++r):=by
 have:dU s++r=Lib.itoa (s.length:Int)++10::(s++r):=by unfold dU;simp
 rw[this];exact tZ (At _)
def e0(m:Int)(s:J):Bool:=s.all cK&&!(s==[])&&!il s&&decide (s.length<=9)&&decide (c5 s<=m)
theorem xg(s:J)(m:Int)(hs:ax s.length):f115 ((s,(m,())),())=some ((bif e0 m s then c5 s else 0,(e0 m s,())),()):=by
 have key:s.length<=9->ry ((s,(m,((0:Int),((s.length:Int),((0:Int),()))))),())=some (bif allI (fun i x=>cK x) 0 s then .inr ((m,(c5 s,())),()) else .inl (((0:Int),(false,())),())):=by
  intro hH;have:=lE pH s (fun i n=>((s,(m,(n,((s.length:Int),((i:Int),()))))),())) (fun i x n=>some (bif cK x then .inl (dT n x) else .inr (.inl (((0:Int),(false,())),())))) (fun n=>.inr ((m,(n,())),()))
   (fun i n=>0<=n/\n<10^i/\(i<=9)) (0:Int) ⟨by decide,by decide,by decide⟩ (fun i x n hx c'=>?_) (fun n _=>?_)
  ·exact this.trans (by rw[w1];rfl)
  ·have hi:=cD hx;have hw:ax i:=by unfold ax at*;omega
   obtain⟨h0,h1,ca⟩:=c';refine⟨?_,fun aM aj=>?_⟩
   ·simp only[pH,cq hi,cond_true,xc,bY,hx,Option.bind_some,b4 hw,nX,mW,Lh];cases Z:cK x with
    |false=>
     unfold cK at Z;by_cases aE:(48:Int)<=(x.toNat:Int)<;>by_cases bi:(x.toNat:Int)<=57<;>simp[aE,bi] at Z ⊢
    |true=>
     obtain⟨aE,bi⟩:=ig Z;have:=D' (i:=i) Z (by omega) h0 h1
     simp only[aE,bi,decide_true,Bool.not_true,Bool.not_false,cond_true,cond_false,Option.bind_some,bY,hx,this,b4 hw,Bool.and_true,Option.map_some]
   ·simp only[Option.some.injEq] at aj;cases aC:cK x with
    |false=>rw[aC] at aj;cases aj
    |true=>
     rw[aC] at aj;simp only[cond_true,Sum.inl.injEq] at aj;subst aj;have:=Du aC h0 h1;exact⟨this.1,this.2,by omega⟩
  ·simp only[pH,dd,cond_false]
 rw[gz] at key;cases s with
 |nil=>rfl
 |cons b r=>
  have hb:aN (b::r) 0=some b:=rfl;have he:((b::r)==([]:J))=false:=rfl;have hl:decide (((b::r).length:Int)>1)=!(r==[]):=by cases r<;>simp;omega
  have hH:decide (((b::r).length:Int)>9)=!decide ((b::r).length<=9):=by by_cases h:(b::r).length<=9<;>simp only[h,decide_true,decide_false,Bool.not_true,Bool.not_false,decide_eq_true_eq,decide_eq_false_iff_not]<;>omega
  have p4:il (b::r)=(!(r==[])&&(b.toNat:Int)==48):=by cases r<;>rfl
  simp only[f115,zH,he,hl,hH,Bool.not_false,cond_true,Bool.not_not,hb,Option.bind_some];have fin:(b::r).length<=9->il (b::r)=false->((ry ((b::r,(m,((0:Int),(((b::r).length:Int),((0:Int),()))))),())).bind fun IZ=>match IZ with
    |.inl u9=>some ((u9.1.1,(u9.1.2.1,())),())
    |.inr qe=>bif decide (qe.1.2.1>qe.1.1) then some (((0:Int),(false,())),()) else some ((qe.1.2.1,(true,())),()))=
    some ((bif e0 m (b::r) then c5 (b::r) else 0,(e0 m (b::r),())),()):=by
   intro hH jx;rw[key hH];unfold e0;rw[he,jx];cases Z:List.all (b::r) cK with
   |false=>rfl
   |true=>
    simp only[cond_true,Option.bind_some,Bool.not_false,Bool.true_and,mW];simp only[hH,decide_true,Bool.true_and];cases decide (c5 (b::r)<=m)<;>rfl
  by_cases aC:(b::r).length<=9
  ·simp only[aC,decide_true,cond_true];cases hr:(r==[]) with
   |true=>
    simp only[Bool.not_true,cond_false,Option.bind_some];exact fin aC (by rw[p4,hr];rfl)
   |false=>
    simp only[Bool.not_false,cond_true,Option.bind_some];cases pd:((b.toNat:Int)==48) with
    |true=>
     have:e0 m (b::r)=false:=by unfold e0;rw[p4,hr,pd];simp
     rw[this];rfl
    |false=>
     simp only[cond_false];exact fin aC (by rw[p4,hr,pd];rfl)
  ·have:e0 m (b::r)=false:=by
    unfold e0;rw[decide_eq_false aC];simp
   simp only[aC,decide_false,cond_false,Option.bind_some,cond_true,this]
theorem aiO{n:Nat}{m:Int}(h:(n:Int)<=m)(hH:n<1000000000):e0 m (Lib.decDigits n)=true:=by
 unfold e0;have h1:(Lib.decDigits n==[])=false:=by simpa using ani n
 have h2:=ajp 8 n (by omega)
 rw[Sa,h1,ajq,R_,decide_eq_true h2,decide_eq_true h];rfl
def ny{aI:Type}(B:Option aI)(R:aI->Prop):Prop:=∀a,B=some a <-> R a
theorem ny.aqJ{aI:Type}{B cP:Option aI}{R:aI->Prop}(h:ny B R)(aj:ny cP R):B=cP:=by
 cases B with
 |some a=>exact((aj a).2 ((h a).1 rfl)).symm
 |none=>
  cases cP with
  |none=>rfl
  |some a=>exact(h a).2 ((aj a).1 rfl)
noncomputable abbrev asJ:a7:=[(209,JL)]
theorem atK:aQ O (aY ad asJ):=aV ⟨Vg,⟨⟩⟩
abbrev i166:Shape:=⟨[ak 0,ak 1],[],23⟩
abbrev WC:Shape:=⟨[ak 4,ak 5,ap 6],[],23⟩
noncomputable def f166(a:i166.F):Option WC.F:=
(f209 ((a.1.1,a.1.2.1,()),())).bind fun b=>
 bif(decide (b.1.1>=(0:Int))) then
(bu a.1.1 (0:Int) b.1.1).bind fun c=>
(bu a.1.1 (IntKind.i64.wrap (b.1.1+(a.1.2.1.length:Int))) (a.1.1.length:Int)).bind fun d=>
 some ((c,d,true,()),())
else
 some ((a.1.1,([]:J),false,()),())
noncomputable def YQ:aB:=aG ad Tryz.f166 i166 WC [] f166
theorem aqb:ay O 166 YQ:=aJ atK Tryz.func166 (by kernel_rfl) af (fun y=>by kernel_rfl) fun a=>by kernel_rfl
noncomputable abbrev atf:a7:=[(166,YQ)]
theorem atX:aQ O (aY ad atf):=aV ⟨aqb,⟨⟩⟩
abbrev i114:Shape:=⟨[ak 0,ak 1],[],13⟩
abbrev Xe:Shape:=⟨[ak 4,ak 5,ap 6],[],13⟩
noncomputable def f114(a:i114.F):Option Xe.F:=
(f166 ((a.1.1,a.1.2.1,()),())).bind fun b=>
 some ((b.1.1,b.1.2.1,b.1.2.2.1,()),())
noncomputable def vt:aB:=aG ad Tryz.f114 i114 Xe [] f114
theorem Bu:ay O 114 vt:=aJ atX Tryz.func114 (by kernel_rfl) af (fun y=>by kernel_rfl) fun a=>by kernel_rfl
noncomputable def U3:aB:=Ht
theorem an8:ay O 250 U3:=adr (fn:=Tryz.f250) (by kernel_rfl) (by kernel_rfl) (by kernel_rfl) (by kernel_rfl) (by kernel_rfl)
noncomputable abbrev asl:a7:=[(212,BU),(250,U3)]
theorem Zq:aQ O (aY ad asl):=aV ⟨z212,an8,⟨⟩⟩
abbrev yI:Shape:=⟨[ak 0,ak 1,ag 5],[],34⟩
abbrev F6:List aO:=[(.ret,⟨[ag 4],[],34⟩)]
noncomputable def alq(y:yI.F):bD yI F6:=
(f212 ((y.1.1,y.1.2.1,()),())).bind fun a=>
 bif(a.1.1==((-1):Int)) then
 some (.inr ((y.1.2.2.1,()),()))
else
(bu y.1.1 (IntKind.i64.wrap (a.1.1+(y.1.2.1.length:Int))) (y.1.1.length:Int)).bind fun b=>
 some (.inl ((b,y.1.2.1,(IntKind.i64.wrap (y.1.2.2.1+(1:Int))),()),()))
noncomputable def RD:yI.F->Option (aA F6):=bo alq
theorem ako:aT O (an (codeOf Tryz.f211) 1 62) (aU yI F6 RD):=bE Zq (by kernel_rfl) af fun y=>by kernel_rfl
abbrev i211:Shape:=⟨[ak 0,ak 1],[],34⟩
abbrev V8:Shape:=⟨[ag 4],[],34⟩
noncomputable def f211(a:i211.F):Option V8.F:=
 bif((a.1.2.1.length:Int)==(0:Int)) then
 none
else
 bif((a.1.2.1.length:Int)==(1:Int)) then
(aN a.1.2.1 (0:Int)).bind fun b=>
(some ()).bind fun c=>
 some ((((Lib.countByte a.1.1 (b.toNat:Int).toNat.toUInt8:Nat):Int),()),())
else
(RD ((a.1.1,a.1.2.1,(0:Int),()),())).bind fun d=>
 some ((d.1.1,()),())
noncomputable def Yr:aB:=aG ad Tryz.f211 i211 V8 [] f211
theorem apS:ay O 211 Yr:=aJ Zq Tryz.func211 (by kernel_rfl) (a6 ako af) (fun y=>by kernel_rfl) fun a=>by kernel_rfl
noncomputable abbrev asI:a7:=[(211,Yr),(212,BU)]
theorem J7:aQ O (aY ad asI):=aV ⟨apS,z212,⟨⟩⟩
abbrev Rf:Shape:=⟨[ak 0,ak 1,ag 2,ag 3],[],66⟩
abbrev QX:List aO:=[(.norm,⟨[ak 0,ak 1,ag 2,ag 3],[],66⟩)]
noncomputable def zx(y:Rf.F):Option (aA QX):=
 bif(decide (y.1.2.2.2.1<(0:Int))) then
(f211 ((y.1.1,y.1.2.1,()),())).bind fun a=>
 some ((y.1.1,y.1.2.1,y.1.2.2.1,(IntKind.i64.wrap (a.1.1+(1:Int))),()),())
else
 some ((y.1.1,y.1.2.1,y.1.2.2.1,y.1.2.2.2.1,()),())
theorem akF:aT O (an (codeOf Tryz.f167) 1 30) (aU Rf QX zx):=b8 J7 (by kernel_rfl) af fun y=>by kernel_rfl
abbrev xr:Shape:=⟨[ak 0,ak 1,ag 2,ag 3,a_ 9 3000576,ag 10],[a8 3000576 .str 9 0],66⟩
abbrev D4:List aO:=[(.exit 0,⟨[ak 0,a_ 9 3000576,ag 10],[a8 3000576 .str 9 0],66⟩)]
noncomputable def xG(y:xr.F):bD xr D4:=
 bif(decide (y.1.2.2.2.2.2.1<y.1.2.2.2.1)) then
(f212 ((y.1.1,y.1.2.1,()),())).bind fun a=>
 bif(decide (a.1.1<(0:Int))) then
 some (.inr ((y.1.1,(),y.1.2.2.2.2.2.1,()),y.2.1,()))
else
(bu y.1.1 (0:Int) (IntKind.i64.wrap (a.1.1+y.1.2.2.1))).bind fun b=>
(bk y.2.1.length y.1.2.2.2.2.2.1).bind fun c=>
((y.2.1[c]?).bind fun q=>some b).bind fun d=>
(bu y.1.1 (IntKind.i64.wrap (a.1.1+(y.1.2.1.length:Int))) (y.1.1.length:Int)).bind fun e=>
 some (.inl ((e,y.1.2.1,y.1.2.2.1,y.1.2.2.2.1,(),(IntKind.i64.wrap (y.1.2.2.2.2.2.1+(1:Int))),()),(y.2.1.set c d),()))
else
 some (.inr ((y.1.1,(),y.1.2.2.2.2.2.1,()),y.2.1,()))
noncomputable def tR:xr.F->Option (aA D4):=bo xG
theorem ags:aT O (an (codeOf Tryz.f167) 1 2044) (aU xr D4 tR):=bE J7 (by kernel_rfl) af fun y=>by kernel_rfl
abbrev i167:Shape:=⟨[ak 0,ak 1,ag 2,ag 3],[],66⟩
abbrev WB:Shape:=⟨[aK 8 .str],[],66⟩
noncomputable def f167(a:i167.F):Option WB.F:=
 bif(a.1.2.2.2.1==(0:Int)) then
 some ((([]:List J),()),())
else
 bif(a.1.2.1==([]:J)) then
 none
else
(zx ((a.1.1,a.1.2.1,a.1.2.2.1,a.1.2.2.2.1,()),())).bind fun b=>
(jv 16 (ld b.1.2.2.2.1 (IntKind.i64.wrap ((b.1.1.length:Int)+(1:Int)))) (ld b.1.2.2.2.1 (IntKind.i64.wrap ((b.1.1.length:Int)+(1:Int)))) ([]:J)).bind fun c=>
(tR ((b.1.1,b.1.2.1,b.1.2.2.1,(IntKind.i64.wrap ((ld b.1.2.2.2.1 (IntKind.i64.wrap ((b.1.1.length:Int)+(1:Int))))-(1:Int))),(),(0:Int),()),c,())).bind fun d=>
(bk d.2.1.length d.1.2.2.1).bind fun e=>
((d.2.1[e]?).bind fun q=>some d.1.1).bind fun f=>
(bu (d.2.1.set e f) (0:Int) (IntKind.i64.wrap (d.1.2.2.1+(1:Int)))).bind fun g=>
 some ((g,()),())
noncomputable def JR:aB:=aG ad Tryz.f167 i167 WB [] f167
theorem z167:ay O 167 JR:=aJ J7 Tryz.func167 (by kernel_rfl) (a6 akF (a6 ags af)) (fun y=>by kernel_rfl) fun a=>by kernel_rfl
noncomputable abbrev ate:a7:=[(167,JR)]
theorem atW:aQ O (aY ad ate):=aV ⟨z167,⟨⟩⟩
abbrev i116:Shape:=⟨[ak 0,ak 1],[],8⟩
abbrev Xc:Shape:=⟨[aK 4 .str],[],8⟩
noncomputable def f116(a:i116.F):Option Xc.F:=
(f167 ((a.1.1,a.1.2.1,(0:Int),((-1):Int),()),())).bind fun b=>
 some ((b.1.1,()),())
noncomputable def Zh:aB:=aG ad Tryz.f116 i116 Xc [] f116
theorem z116:ay O 116 Zh:=aJ atW Tryz.func116 (by kernel_rfl) af (fun y=>by kernel_rfl) fun a=>by kernel_rfl
abbrev i251:Shape:=⟨[ak 0,ak 1],[],18⟩
abbrev VO:Shape:=⟨[ap 4],[],18⟩
noncomputable def f251(a:i251.F):Option VO.F:=
 bif(decide ((a.1.1.length:Int)>=(a.1.2.1.length:Int))) then
(bu a.1.1 (0:Int) (a.1.2.1.length:Int)).bind fun b=>
 some (((b==a.1.2.1),()),())
else
 some ((false,()),())
noncomputable def JG:aB:=aG ad Tryz.f251 i251 VO [] f251
theorem Vc:ay O 251 JG:=aJ g0 Tryz.func251 (by kernel_rfl) af (fun y=>by kernel_rfl) fun a=>by kernel_rfl
noncomputable abbrev asi:a7:=[(251,JG)]
theorem atB:aQ O (aY ad asi):=aV ⟨Vc,⟨⟩⟩
abbrev i213:Shape:=⟨[ak 0,ak 1],[],15⟩
abbrev V6:Shape:=⟨[ak 4,ap 5],[],15⟩
noncomputable def f213(a:i213.F):Option V6.F:=
(f251 ((a.1.1,a.1.2.1,()),())).bind fun b=>
 bif(!b.1.1) then
 some ((a.1.1,false,()),())
else
(bu a.1.1 (a.1.2.1.length:Int) (a.1.1.length:Int)).bind fun c=>
 some ((c,true,()),())
noncomputable def Yq:aB:=aG ad Tryz.f213 i213 V6 [] f213
theorem z213:ay O 213 Yq:=aJ atB Tryz.func213 (by kernel_rfl) af (fun y=>by kernel_rfl) fun a=>by kernel_rfl
noncomputable abbrev asH:a7:=[(213,Yq)]
theorem atJ:aQ O (aY ad asH):=aV ⟨z213,⟨⟩⟩
abbrev i168:Shape:=⟨[ak 0,ak 1],[],11⟩
abbrev WA:Shape:=⟨[ak 4,ap 5],[],11⟩
noncomputable def f168(a:i168.F):Option WA.F:=
(f213 ((a.1.1,a.1.2.1,()),())).bind fun b=>
 some ((b.1.1,b.1.2.1,()),())
noncomputable def YP:aB:=aG ad Tryz.f168 i168 WA [] f168
theorem z168:ay O 168 YP:=aJ atJ Tryz.func168 (by kernel_rfl) af (fun y=>by kernel_rfl) fun a=>by kernel_rfl
noncomputable abbrev ash:a7:=[(251,JG)]
theorem atA:aQ O (aY ad ash):=aV ⟨Vc,⟨⟩⟩
abbrev i215:Shape:=⟨[ak 0,ak 1],[],8⟩
abbrev V5:Shape:=⟨[ap 4],[],8⟩
noncomputable def f215(a:i215.F):Option V5.F:=
(f251 ((a.1.1,a.1.2.1,()),())).bind fun b=>
 some ((b.1.1,()),())
noncomputable def Yp:aB:=aG ad Tryz.f215 i215 V5 [] f215
theorem apR:ay O 215 Yp:=aJ atA Tryz.func215 (by kernel_rfl) af (fun y=>by kernel_rfl) fun a=>by kernel_rfl
noncomputable abbrev asg:a7:=[(167,JR)]
theorem atz:aQ O (aY ad asg):=aV ⟨z167,⟨⟩⟩
abbrev i216:Shape:=⟨[ak 0,ak 1,ag 2],[],11⟩
abbrev V4:Shape:=⟨[aK 6 .str],[],11⟩
noncomputable def f216(a:i216.F):Option V4.F:=
(f167 ((a.1.1,a.1.2.1,(0:Int),a.1.2.2.1,()),())).bind fun b=>
 some ((b.1.1,()),())
noncomputable def Yo:aB:=aG ad Tryz.f216 i216 V4 [] f216
theorem apQ:ay O 216 Yo:=aJ atz Tryz.func216 (by kernel_rfl) af (fun y=>by kernel_rfl) fun a=>by kernel_rfl
def gJ(c:UInt8)(s:J):J:=match dJ c s with|some (x,_)=>x|none=>s
def gI(c:UInt8)(s:J):J:=match dJ c s with|some (_,y)=>y|none=>[]
theorem Pn(c:UInt8)(r:J):f209 ((r,([c],())),())=some ((Lib.indexByte r c,()),()):=by
 have h0:aN ([c]:J) (0:Int)=some c:=rfl;have h1:((([c]:J).length:Int)==0)=false:=rfl;have h2:((([c]:J).length:Int)==1)=true:=rfl;have h3:((c.toNat:Int)).toNat.toUInt8=c:=by simp
 simp only[f209,zp,f244,h0,h1,h2,h3,Bool.not_false,cond_true,cond_false,Option.bind_some,Option.bind];by_cases h:(([c]:J)==r)=true
 ·have:r=[c]:=(by simpa using h:[c]=r).symm
  subst this;simp[Lib.indexByte]<;>rfl
 ·simp[h]<;>rfl
theorem mw(c:UInt8)(s:J)(hs:ax s.length):f114 ((s,([c],())),())=some ((gJ c s,(gI c s,((dJ c s).isSome,()))),()):=by
 have hi:=Pn c s;rw[RQ] at hi;unfold gJ gI;simp only[f114,f166,hi,Option.bind_some];cases h:dJ c s with
 |none=>rfl
 |some q=>
  obtain⟨x,y⟩:=q;obtain⟨h1,_⟩:=kQ h;have hl:s.length=x.length+1+y.length:=by rw[h1];simp;omega
  have Z:decide (((x.length:Nat):Int)>=0)=true:=decide_eq_true (by omega)
  have hw:IntKind.i64.wrap (((x.length:Nat):Int)+((([c]:J).length:Nat):Int))=((x.length+1:Nat):Int):=by
   rw[cM (by simp;omega) (by unfold ax at hs;simp;omega)];simp
  have e1:bu s 0 ((x.length:Nat):Int)=some x:=by rw[ii (by omega),h1];simp
  have e2:bu s ((x.length+1:Nat):Int) ((s.length:Nat):Int)=some y:=by
   rw[iI (by omega)]
   congr 1
   rw[h1,show x++c::y=(x++[c])++y by simp,List.drop_left' (by simp)]
  simp only[Z,cond_true,e1,hw,e2,Option.bind_some,Option.isSome_some]
def fB(p s:J):Option J:=bif decide (p.length<=s.length)&&s.take p.length==p then some (s.drop p.length) else none
theorem MW(s p:J):f251 ((s,(p,())),())=some (((fB p s).isSome,()),()):=by
 have Z:decide (((s.length:Nat):Int)>=((p.length:Nat):Int))=decide (p.length<=s.length):=by congr 1;apply propext;omega
 unfold fB;simp only[f251,Z];cases h:decide (p.length<=s.length) with
 |false=>rfl
 |true=>
  rw[cond_true,ii (of_decide_eq_true h)];simp only[Option.bind_some,Bool.true_and];cases (s.take p.length==p)<;>rfl
theorem acW(s p:J):f215 ((s,(p,())),())=some (((fB p s).isSome,()),()):=by
 have:=MW s p;simp only[f215,this,Option.bind_some]
theorem MX(s p:J):f168 ((s,(p,())),())=some (((fB p s).getD s,((fB p s).isSome,())),()):=by
 have h0:=MW s p;simp only[f168,f213,h0,Option.bind_some];unfold fB;cases h:decide (p.length<=s.length)&&s.take p.length==p with
 |false=>rfl
 |true=>
  simp only[Bool.and_eq_true,decide_eq_true_eq] at h;have e:bu s ((p.length:Nat):Int) ((s.length:Nat):Int)=some (s.drop p.length):=iI h.1;simp only[cond_true,Option.isSome_some,Bool.not_true,cond_false,e,Option.bind_some,Option.getD_some]
theorem Pc(p r:J):fB p (p++r)=some r:=by
 unfold fB;rw[decide_eq_true (by simp)]
 simp
def splitN(c:UInt8):Nat->J->List J
 |0,s=>[s]
 |k+1,s=>match dJ c s with
  |some (x,y)=>x::splitN c k y
  |none=>[s]
theorem DJ(c:UInt8):∀(k:Nat) (s:J),(bC c s).length<=k+1->splitN c k s=bC c s:=by
 intro k;induction k with
 |zero=>
  intro s h;rw[NC] at h ⊢;cases hc:dJ c s with
  |none=>rfl
  |some q=>
   obtain⟨x,y⟩:=q;rw[hc] at h;have:=oi c y;cases hy:bC c y with
   |nil=>exact absurd hy this
   |cons z zs=>simp[hy] at h
 |succ k ih=>
  intro s h;rw[NC] at h ⊢;unfold splitN;cases hc:dJ c s with
  |none=>rfl
  |some q=>
   obtain⟨x,y⟩:=q;rw[hc] at h;simp only[List.length_cons] at h;show x::splitN c k y=x::bC c y;rw[ih y (by omega)]
theorem DI(c:UInt8):∀(k:Nat) (s:J),s.length<=k->splitN c k s=bC c s:=fun k s h=>DJ c k s (by have:=nf c s;omega)
theorem E9{aI:Type}:∀(a:List aI) (i:Nat) (x:aI),i<a.length->(a.set i x).take (i+1)=a.take i++[x]:=by
 intro a;induction a with
 |nil=>intro i x h;simp at h
 |cons b a ih=>
  intro i x h;cases i with
  |zero=>rfl
  |succ i=>
   have:=ih i x (by simpa using h)
   simp only[List.set_cons_succ,List.take_succ_cons,List.cons_append,this]
theorem RU(c:UInt8)(N:Nat)(gf:ax N):∀(m i:Nat) (s:J) (a:List J),i+m+1=N->a.length=N->ax s.length->s.length+i<=1099511627776->
  ∃(aM:J) (j:Nat) (dv:List J),tR ((s,([c],((0:Int),(((N-1:Nat):Int),((),((i:Int),())))))),(a,()))=some ((aM,((),((j:Int),()))),(dv,()))/\j<N/\dv.length=N/\(dv.set j aM).take (j+1)=a.take i++splitN c m s:=by
 intro m;induction m with
 |zero=>
  intro i s a hi ha hs _;refine⟨s,i,a,de ?_,by omega,ha,?_⟩
  ·have:decide ((i:Int)<((N-1:Nat):Int))=false:=decide_eq_false (by omega)
   simp only[xG,this,cond_false]
  ·rw[E9 a i s (by omega)];rfl
 |succ m ih=>
  intro i s a hi ha hs hb;have hlt:decide ((i:Int)<((N-1:Nat):Int))=true:=decide_eq_true (by omega)
  have hx:=Pn c s;have hx:f212 ((s,([c],())),())=some ((Lib.indexByte s c,()),()):=by simp only[f212,hx,Option.bind_some]
  rw[RQ] at hx;cases hc:dJ c s with
  |none=>
   rw[hc] at hx;refine⟨s,i,a,de ?_,by omega,ha,?_⟩
   ·have:decide ((-1:Int)<0)=true:=rfl;simp only[xG,hlt,cond_true,hx,Option.bind_some,this]
   ·rw[E9 a i s (by omega)];simp only[splitN,hc]
  |some q=>
   obtain⟨x,y⟩:=q;rw[hc] at hx;obtain⟨h1,_⟩:=kQ hc;have hl:s.length=x.length+1+y.length:=by rw[h1];simp;omega
   obtain⟨aM,j,dv,g1,g2,g3,g4⟩:=ih (i+1) y (a.set i x) (by omega) (by simp[ha]) (by unfold ax at hs ⊢;omega) (by omega)
   refine⟨aM,j,dv,?_,g2,g3,?_⟩
   ·refine(fc ?_).trans g1;have Z:decide (((x.length:Nat):Int)<0)=false:=decide_eq_false (by omega)
    have U:IntKind.i64.wrap (((x.length:Nat):Int)+0)=((x.length:Nat):Int):=by unfold ax at hs;rw[cM (by omega) (by omega)];omega
    have bB:IntKind.i64.wrap (((x.length:Nat):Int)+((([c]:J).length:Nat):Int))=((x.length+1:Nat):Int):=by
     unfold ax at hs;rw[cM (by simp;omega) (by simp;omega)];simp
    have e1:bu s 0 ((x.length:Nat):Int)=some x:=by rw[ii (by omega),h1];simp
    have e2:bu s ((x.length+1:Nat):Int) ((s.length:Nat):Int)=some y:=by
     rw[iI (by omega)]
     congr 1
     rw[h1,show x++c::y=(x++[c])++y by simp,List.drop_left' (by simp)]
    have bv:bk a.length (i:Int)=some i:=fO (by omega)
    have dq:a[i]? =some (a[i]'(by omega)):=List.getElem?_eq_getElem (by omega)
    simp only[xG,hlt,cond_true,hx,Option.bind_some,Z,cond_false,U,e1,bv,dq,bB,e2,b4 (i:=i) (by unfold ax;omega)]
   ·rw[g4,E9 a i x (by omega)]
    simp only[splitN,hc,List.append_assoc,List.cons_append,List.nil_append]
theorem aee(c:UInt8):∀s:J,(bC c s).length=Lib.countByte s c+1:=by
 intro s;induction s with
 |nil=>rfl
 |cons b r ih=>
  unfold bC Lib.countByte;rw[List.count_cons];unfold Lib.countByte at ih;cases hb:b==c with
  |true=>simp[ih]
  |false=>
   simp only[cond_false];have hne:=oi c r;cases hy:bC c r with
   |nil=>exact absurd hy hne
   |cons y bg=>rw[hy] at ih;simpa using ih
theorem aev(c:UInt8)(s:J)(n N:Nat)(hs:s.length<=1000000000)(h1:1<=n)(gf:min n (s.length+1)=N):
  f167 ((s,([c],((0:Int),((n:Int),())))),())=some ((splitN c (N-1) s,()),()):=by
 have qD:((n:Int)==0)=false:=by rw[beq_eq_false_iff_ne];omega
 have hc0:(([c]:J)==[])=false:=rfl;have hneg:decide ((n:Int)<0)=false:=decide_eq_false (by omega)
 have hw:IntKind.i64.wrap (((s.length:Nat):Int)+1)=((s.length+1:Nat):Int):=by rw[cM (by omega) (by omega)];omega
 have hm:ld (n:Int) ((s.length+1:Nat):Int)=(N:Int):=by unfold ld;split<;>omega
 have KR:jv 16 (N:Int) (N:Int) ([]:J)=some (List.replicate N []):=Tg (by decide) (by unfold ax;omega)
 have hw1:IntKind.i64.wrap ((N:Int)-1)=((N-1:Nat):Int):=by rw[cM (by omega) (by omega)];omega
 obtain⟨aM,j,dv,g1,g2,g3,g4⟩:=RU c N (by unfold ax;omega) (N-1) 0 s (List.replicate N []) (by omega) (by simp) (by unfold ax;omega) (by omega)
 have g1:tR ((s,([c],((0:Int),(((N-1:Nat):Int),((),((0:Int),())))))),(List.replicate N ([]:J),()))=_:=g1;have e1:bk dv.length (j:Int)=some j:=fO (by omega)
 have e2:dv[j]? =some (dv[j]'(by omega)):=List.getElem?_eq_getElem (by omega)
 have bv:bu (dv.set j aM) 0 ((j+1:Nat):Int)=some (splitN c (N-1) s):=by
  rw[ii (by simp;omega),g4];simp
 simp only[f167,qD,hc0,cond_false,zx,hneg,Option.bind_some,hw,hm,KR,hw1,g1,e1,e2,b4 (i:=j) (by unfold ax;omega),bv]
theorem Oa(s:J)(hs:s.length<=1000000000):f216 ((s,([32],((5:Int),()))),())=some ((splitN 32 4 s,()),()):=by
 have h:=aev 32 s 5 _ hs (by decide) rfl
 have h:f167 ((s,(([32]:J),((0:Int),((5:Int),())))),())=_:=h;simp only[f216,h,Option.bind_some];congr 3
 by_cases aE:4<=s.length
 ·rw[show min 5 (s.length+1)-1=4 by omega]
 ·rw[DI 32 _ s (by omega),DI 32 4 s (by omega)]
theorem Ob(s:J)(hs:s.length<=1000000000):f116 ((s,([32],())),())=some ((bC 32 s,()),()):=by
 have hcs:=aee 32 s;have hl:=nf 32 s;have qD:((-1:Int)==0)=false:=rfl;have hc0:(([32]:J)==[])=false:=rfl;have hneg:decide ((-1:Int)<0)=true:=rfl;have ary:f211 ((s,(([32]:J),())),())=some (((Lib.countByte s 32:Int),()),()):=rfl;have Cs:IntKind.i64.wrap ((Lib.countByte s 32:Int)+1)=(((bC 32 s).length:Nat):Int):=by rw[cM (by omega) (by omega)];omega
 have hw:IntKind.i64.wrap (((s.length:Nat):Int)+1)=((s.length+1:Nat):Int):=by rw[cM (by omega) (by omega)];omega
 generalize gf:(bC 32 s).length=N at Cs hcs hl;have hm:ld (N:Int) ((s.length+1:Nat):Int)=(N:Int):=by unfold ld;split<;>omega
 have KR:jv 16 (N:Int) (N:Int) ([]:J)=some (List.replicate N []):=Tg (by decide) (by unfold ax;omega)
 have hw1:IntKind.i64.wrap ((N:Int)-1)=((N-1:Nat):Int):=by rw[cM (by omega) (by omega)];omega
 obtain⟨aM,j,dv,g1,g2,g3,g4⟩:=RU 32 N (by unfold ax;omega) (N-1) 0 s (List.replicate N []) (by omega) (by simp) (by unfold ax;omega) (by omega)
 have g1:tR ((s,(([32]:J),((0:Int),(((N-1:Nat):Int),((),((0:Int),())))))),(List.replicate N ([]:J),()))=_:=g1;have e1:bk dv.length (j:Int)=some j:=fO (by omega)
 have e2:dv[j]? =some (dv[j]'(by omega)):=List.getElem?_eq_getElem (by omega)
 have bv:bu (dv.set j aM) 0 ((j+1:Nat):Int)=some (bC 32 s):=by
  rw[ii (by simp;omega),g4,DJ 32 (N-1) s (by omega)];simp
 simp only[f116,f167,qD,hc0,cond_false,zx,hneg,cond_true,ary,Option.bind_some,Cs,hw,hm,KR,hw1,g1,e1,e2,b4 (i:=j) (by unfold ax;omega),bv]
end Go.Proofs
namespace Go.Proofs
open Go.Shelf Go.RowKit Go.Lib
variable {P:Program}{ρ:Ren}
abbrev oZ(s:ByteArray):Prop:=∀(j:Nat) b,s.data.toList[j]? =some b->b.toNat<128
theorem ajm{r:Int}(h0:128<=r):2<=(Utf8.encode r).size/\∀j (h:j<(Utf8.encode r).size),0<j->128<=((Utf8.encode r)[j]'h).toNat:=by
 unfold Utf8.encode;generalize hc:(if Utf8.valid r then r.toNat else Utf8.runeError)=c
 have hc1:128<=c:=by
  rw[<-hc];split
  ·omega
  ·decide
 simp only[];have k:∀x:Nat,128<=128+x%64/\128+x%64<256:=fun x=>by omega
 repeat' split
 all_goals first|omega|skip
 ·refine⟨by show 2<=2;decide,fun j h hj=>?_⟩
  have hj2:j<2:=h;have:j=1:=by omega
  subst this;show 128<=(UInt8.ofNat (128+c%64)).toNat;rw[UInt8.toNat_ofNat'];have:=k c;omega
 ·refine⟨by show 2<=3;decide,fun j h hj=>?_⟩
  have hj2:j<3:=h;have:j=1\/j=2:=by omega
  rcases this with rfl|rfl
  ·show 128<=(UInt8.ofNat (128+c/64%64)).toNat;rw[UInt8.toNat_ofNat'];have:=k (c/64);omega
  ·show 128<=(UInt8.ofNat (128+c%64)).toNat;rw[UInt8.toNat_ofNat'];have:=k c;omega
 ·refine⟨by show 2<=4;decide,fun j h hj=>?_⟩
  have hj2:j<4:=h;have:j=1\/j=2\/j=3:=by omega
  rcases this with rfl|rfl|rfl
  ·show 128<=(UInt8.ofNat (128+c/4096%64)).toNat;rw[UInt8.toNat_ofNat'];have:=k (c/4096);omega
  ·show 128<=(UInt8.ofNat (128+c/64%64)).toNat;rw[UInt8.toNat_ofNat'];have:=k (c/64);omega
  ·show 128<=(UInt8.ofNat (128+c%64)).toNat;rw[UInt8.toNat_ofNat'];have:=k c;omega
theorem acs{l:List UInt8}{b:UInt8}(h:∀x,x∈l->x.toNat<128)(hb:128<=b.toNat):Lib.indexByte l b=-1:=by
 induction l with
 |nil=>rfl
 |cons x r ih=>
  have h1:=h x List.mem_cons_self;have h2:=ih fun y hy=>h y (List.mem_cons_of_mem _ hy)
  have h3:(x==b)=false:=by
   rw[beq_eq_false_iff_ne];rintro rfl;omega
  unfold Lib.indexByte;rw[h2,h3];rfl
set_option maxHeartbeats 4000000 in
set_option maxRecDepth 1000000 in
theorem Any.acF(L:Lays.n152 P ρ)(s:ByteArray)(w:World)(ha:oZ s):
  Calls P (ρ.f 152) #[.string s,.int .i32 65533] w fun e w'=>e=.returned (.int .i64 (-1))/\∃pos,w'=w.iter s pos:=by
 have HA:Aside (oZ s):=ha;clear ha;have t3:=L.t3;have a3:=L.a3;have z3:=L.z3;have v3:=L.v3;have t4:=L.t4;have a4:=L.a4;have z4:=L.z4;have v4:=L.v4;have t5:=L.t5;have a5:=L.a5;have z5:=L.z5;have v5:=L.v5;have t9:=L.t9;have a9:=L.a9;have z9:=L.z9;have v9:=L.v9;have t21:=L.t21;have a21:=L.a21;have z21:=L.z21;have v21:=L.v21;go_enter L.f152,Body.n152_ntmps ρ
 go_wp2
 go_loopg [5,6] s.size (fun g _ _ wx=>∃i:Nat,i+g=s.size/\wx=w.iter s i)
 case atStart=>exact⟨0,by omega,rfl⟩
 case round=>
  obtain⟨i,hig,rfl⟩:=hrel;cases gk with
  |zero=>
   obtain rfl:i=s.size:=by omega
   have hnx:=run_next_end (P:=P) w s s.size
   go_wp2
   go_ret
   exact⟨rfl,_,rfl⟩
  |succ g=>
   have hi:i<s.size:=by omega
   obtain⟨x,hx⟩:∃x:UInt8,s[i]'hi=x:=⟨_,rfl⟩;have hxl:s.data.toList[i]? =some x:=by rw[<-hx];exact Lib.data_getElem? s i hi
   have hx128:x.toNat<128:=HA.out i x hxl;have hnx:=fun ty=>run_next_ascii (P:=P) w s i ty hi (by rw[hx];exact hx128)
   rw[hx] at hnx;clear hxl hx;have hne:((x.toNat:Int)==65533)=false:=by rw[beq_eq_false_iff_ne];omega
   go_wp2
   go_roundg g
   case measure=>omega
   case rel=>exact⟨i+1,by omega,rfl⟩
set_option maxHeartbeats 8000000 in
set_option maxRecDepth 1000000 in
theorem Any.acr(L:Lays.n152 P ρ)(s:ByteArray)(r:Int)(w:World)(h0:128<=r)(h1:r<=2147483647)(hne:r≠65533)(hs:s.size<=1000000)(ha:oZ s):
  Calls P (ρ.f 152) #[.string s,.int .i32 r] w fun e w'=>e=.returned (.int .i64 (-1))/\Below w.heap.size w w':=by
 have HA:Aside (oZ s):=ha;clear ha;have t3:=L.t3;have a3:=L.a3;have z3:=L.z3;have v3:=L.v3;have t4:=L.t4;have a4:=L.a4;have z4:=L.z4;have v4:=L.v4;have t5:=L.t5;have a5:=L.a5;have z5:=L.z5;have v5:=L.v5;have t9:=L.t9;have a9:=L.a9;have z9:=L.z9;have v9:=L.v9;have t21:=L.t21;have a21:=L.a21;have z21:=L.z21;have v21:=L.v21;have e119:∀args w,(callFunc (ρ.f 119) args).run P w=.ok (.enter (ρ.f 119) args) w:=enters_of L.f119 (by kernel_rfl) rfl
 have e137:∀args w,(callFunc (ρ.f 137) args).run P w=.ok (.enter (ρ.f 137) args) w:=enters_of L.f137 (by kernel_rfl) rfl
 have b1:¬(r<128):=by omega
 have b2:(0:Int)<=r:=by omega
 have b3:(r==65533)=false:=by rw[beq_eq_false_iff_ne];exact hne
 obtain⟨hE,hB⟩:=ajm h0;cases hv:Lib.validRune r with
 |false=>
  go_enter L.f152,Body.n152_ntmps ρ
  go_wp2_with (go_at_fn (ρ.f 119);refine(Any.utf8_ValidRune {L with} _ _).mono ?_;rintro e w' ⟨rfl,hw⟩;rw[hw,hv])
  go_ret
  exact⟨rfl,Below.refl _ _⟩
 |true=>
  have mixed:=L.mixed;have s21:(P.underlying (ρ.t 21)).isSome=true:=by rw[L.t21];rfl
  have hcv:=fun w=>run_convert_int_string (P:=P) w (ρ.t 21) (ρ.t 9) .i32 r s21 L.t9
  have hRs:(Utf8.encode r).size<=4:=encode_size_le r;generalize hR:Utf8.encode r=R at hE hB hcv hRs;clear hR;obtain⟨n,hn⟩:∃n:Nat,R.size=n+1:=⟨R.size-1,by omega⟩
  have hidx:(R.size:Int)-1=(n:Int):=by omega
  go_enter L.f152,Body.n152_ntmps ρ
  go_wp2_with (go_at_fn (ρ.f 119);refine(Any.utf8_ValidRune {L with} _ _).mono ?_;rintro e w' ⟨rfl,hw⟩;rw[hw,hv])
  go_step3
  go_wp2
  refine wp_loop_rounds 1 ?_
  rw[rounds_succ]
  go_wp2
  ·have hlt:(n:Int)<(s.size:Int):=by omega
   have hns:n<s.size:=by omega
   have hnR:n<R.size:=by omega
   have hx:=HA.out n _ (Lib.data_getElem? s n hns);have hy:=hB n hnR (by omega)
   obtain⟨x,hxe⟩:∃x:UInt8,s[n]'hns=x:=⟨_,rfl⟩;obtain⟨y,hye⟩:∃y:UInt8,R[n]'hnR=y:=⟨_,rfl⟩;rw[hxe] at hx;rw[hye] at hy;have g1:=fun w=>run_index_string (P:=P) w (ρ.t 9) s .i64 (n:Int) L.t9
   have g2:=fun w=>run_index_string (P:=P) w (ρ.t 9) R .i64 (n:Int) L.t9
   simp only[show(0:Int)<=(n:Int)/\(n:Int)<(s.size:Int) from⟨by omega,hlt⟩,dif_pos,Int.toNat_natCast,hxe] at g1
   simp only[show(0:Int)<=(n:Int)/\(n:Int)<(R.size:Int) from⟨by omega,by omega⟩,dif_pos,Int.toNat_natCast,hye] at g2
   go_step3
   go_wp2
   go_region_o
   have hxy:((x.toNat:Int)==(y.toNat:Int))=false:=by rw[beq_eq_false_iff_ne];omega
   have hxy':¬x.toNat=y.toNat:=by omega
   go_wp2
   have hsm:indexByte (List.take (s.size-(n+1)) (List.drop (n+1) s.data.toList)) y=-1:=by
    refine acs (fun z hz=>?_) hy
    obtain⟨k,hk⟩:=List.getElem?_of_mem (List.mem_of_mem_drop (List.mem_of_mem_take hz));exact HA.out k z hk
   have hb1:(n:Int)+1<=(s.size:Int):=by omega
   have hb0:(0:Int)<=(n:Int)+1:=by omega
   have hb2:¬((s.size:Int)<(n:Int)+1):=by omega
   have hbn:n+1<=s.size:=by omega
   have hsl1:∀w,(Instr.slice (ρ.t 9) (.string s) (some (.int .i64 ((n:Int)+1))) none none).run P w=.ok (.string (s.extract (n+1) s.size)) w:=fun w=>by
    rw[run_slice_string_from_if w (ρ.t 9) s .i64 _ L.t9,if_pos ⟨by omega,by omega⟩]
    rfl
   have hw1:IntKind.i64.wrap ((n:Int)+1)=(n:Int)+1:=by rw[IntKind.wrap_i64];omega
   have hsl2:∀w,(Instr.slice (ρ.t 9) (.string s) (some (.int .i64 (IntKind.i64.wrap ((n:Int)+1)))) none none).run P w=.ok (.string (s.extract (n+1) s.size)) w:=fun w=>by rw[hw1];exact hsl1 w
   go_region_with_o (go_at_fn (ρ.f 137);refine(Any.strings_IndexByte {L with} _ _ _).mono ?_;rintro e w' ⟨rfl,hw⟩;rw[hw])
   go_wp2
   rw[Exit.noGoto_ret];simp only[Exit.inBlock,Exit.then]
   rw[Exit.noGoto_ret];simp only[Exit.inBlock,Exit.then]
   go_ret
   exact⟨rfl,(Below.refl _ _).drew.drew⟩
  ·rw[Exit.noGoto_ret];go_ret
   exact⟨rfl,Below.refl _ _⟩
theorem aed(s:ByteArray)(pos:Nat)(h:pos<s.size)(ha:128<=(s[pos]'h).toNat):∀j,j<(Utf8.decode s pos).2->pos+j<s.size/\∀b,s.data.toList[pos+j]? =some b->128<=b.toNat:=by
 have g:∀k (hk:pos+k<s.size) b,s.data.toList[pos+k]? =some b->s.get! (pos+k)=b:=fun k hk b hb=>by
  have e:=Lib.data_getElem? s (pos+k) hk;rw[hb] at e;have:=get_at s (pos+k) hk;rw[Nat.add_zero] at this;rw[this];exact(Option.some.inj e).symm
 have z:∀b,s.data.toList[pos+0]? =some b->128<=b.toNat:=fun b hb=>by
  have e:=Lib.data_getElem? s pos h;rw[Nat.add_zero,e] at hb;rw[<-Option.some.inj hb];exact ha
 have c:∀k,(decide (pos+k<s.size)&&(s.get! (pos+k)).toNat/64==2)=true->pos+k<s.size/\∀b,s.data.toList[pos+k]? =some b->128<=b.toNat:=fun k hk=>by
  simp only[Bool.and_eq_true,decide_eq_true_eq,beq_iff_eq] at hk;refine⟨hk.1,fun b hb=>?_⟩
  have:=g k hk.1 b hb;rw[this] at hk;omega
 have one:∀j,j<1->pos+j<s.size/\∀b,s.data.toList[pos+j]? =some b->128<=b.toNat:=fun j hj=>by
  obtain rfl:j=0:=by omega
  exact⟨h,z⟩
 have hn:¬(s[pos]'h).toNat<128:=by omega
 simp only[Utf8.decode,get_at s pos h,hn,if_false];split
 ·rename_i h2;simp only[Bool.and_eq_true] at h2;have c1:=c 1 (by simpa using h2.2)
  split
  ·intro j hj;have:j=0\/j=1:=by simp only at hj;omega
   rcases this with rfl|rfl
   ·exact⟨h,z⟩
   ·exact c1
  ·exact one
 ·split
  ·rename_i h2;simp only[Bool.and_eq_true] at h2;have c1:=c 1 (by simpa using h2.1.2)
   have c2:=c 2 (by simpa using h2.2)
   split
   ·intro j hj;have:j=0\/j=1\/j=2:=by simp only at hj;omega
    rcases this with rfl|rfl|rfl
    ·exact⟨h,z⟩
    ·exact c1
    ·exact c2
   ·exact one
  ·split
   ·rename_i h2;simp only[Bool.and_eq_true] at h2;have c1:=c 1 (by simpa using h2.1.1.2)
    have c2:=c 2 (by simpa using h2.1.2)
    have c3:=c 3 (by simpa using h2.2)
    split
    ·intro j hj;have:j=0\/j=1\/j=2\/j=3:=by simp only at hj;omega
     rcases this with rfl|rfl|rfl|rfl
     ·exact⟨h,z⟩
     ·exact c1
     ·exact c2
     ·exact c3
    ·exact one
   ·exact one
theorem Any.adi(L:Lays.n152 P ρ)(s:ByteArray)(r:Int)(w:World)(h0:128<=r)(h1:r<=2147483647)(hs:s.size<=1000000)(ha:oZ s):
  Calls P (ρ.f 152) #[.string s,.int .i32 r] w fun e w'=>e=.returned (.int .i64 (-1))/\Below w.heap.size w w':=by
 by_cases hne:r=65533
 ·subst hne;exact(Any.acF L s w ha).mono fun e w' ⟨h,pos,h2⟩=>⟨h,h2▸(Below.refl _ _).alloc (Nat.le_refl _) _⟩
 ·exact Any.acr L s r w h0 h1 hne hs ha
set_option maxHeartbeats 8000000 in
set_option maxRecDepth 1000000 in
theorem Any.acj(L:Lays.n153 P ρ)(s chars:ByteArray)(w:World)(h2:2<=chars.size)(h8:s.size<=8)(hcs:chars.size<=1000000)(hac:oZ chars):
  Calls P (ρ.f 153) #[.string s,.string chars] w fun e w'=>e=.returned (.int .i64 (Lib.indexAny s.data.toList chars.data.toList))/\Below w.heap.size w w':=by
 have HA:Aside (oZ chars):=hac;clear hac;have hemp:chars.toList.isEmpty=false:=by
  rw[Lib.toList_data];cases h:chars.data.toList with
  |nil=>have:=Lib.size_eq chars;rw[h,List.length_nil] at this;omega
  |cons _ _=>rfl
 have hn1:((chars.size:Int)==1)=false:=beq_eq_false_iff_ne.2 (by omega)
 have h8z:decide ((8:Int)<(s.size:Int))=false:=decide_eq_false (by omega)
 have t3:=L.t3;have a3:=L.a3;have z3:=L.z3;have v3:=L.v3;have t4:=L.t4;have a4:=L.a4;have z4:=L.z4;have v4:=L.v4;have t5:=L.t5;have a5:=L.a5;have z5:=L.z5;have v5:=L.v5;have t9:=L.t9;have a9:=L.a9;have z9:=L.z9;have v9:=L.v9;have t21:=L.t21;have a21:=L.a21;have z21:=L.z21;have v21:=L.v21;have e152:∀args w,(callFunc (ρ.f 152) args).run P w=.ok (.enter (ρ.f 152) args) w:=enters_of L.f152 (by kernel_rfl) rfl
 have e226:∀args w,(callFunc (ρ.f 226) args).run P w=.ok (.enter (ρ.f 226) args) w:=enters_of L.f226 (by kernel_rfl) rfl
 go_enter L.f153,Body.n153_ntmps ρ
 go_wp2_with (go_at_fn (ρ.f 226);refine(Any.strings_shouldUseASCIISet {L with} _ _).mono ?_;rintro e w' ⟨rfl,hw⟩;rw[hw,h8z])
 go_loopg [9,10] s.size (fun g _ _ wx=>∃i:Nat,i<=s.size/\s.size-i<=g/\wx.heap[w.heap.size]? =some (.stringIter s i)/\Aside (Below w.heap.size w wx)/\Aside (Lib.NoAny s.data.toList chars.data.toList i))
 case atStart=>exact⟨0,by omega,by omega,World.iter_heap _ _ _,(Below.refl _ _).alloc (Nat.le_refl _) _,Lib.NoAny.zero _ _⟩
 case round=>
  obtain⟨i,hi,hg,hk,Dc,HN⟩:=hrel;by_cases hlt:i<s.size
  ·obtain⟨x,hx⟩:∃x:UInt8,s[i]'hlt=x:=⟨_,rfl⟩;have hxl:s.data.toList[i]? =some x:=by rw[<-hx];exact Lib.data_getElem? s i hlt
   have Hx:Aside (s.data.toList[i]? =some x):=hxl;have hkl:=(Array.getElem?_eq_some_iff.1 hk).1;by_cases hx128:x.toNat<128
   ·have hnx:=fun ty=>run_next_ascii_at (P:=P) _ w.heap.size s i ty hk hlt (by rw[hx];exact hx128)
    rw[hx] at hnx;have hio:=iterAt_heap _ w.heap.size s i (i+1) hk;have hbo:Aside (Below w.heap.size w _):=below_iterAt Dc.out (Nat.le_refl _) s (i+1);clear hxl hx;have hcon:=Lib.contains_iff_indexByte chars.data.toList x;have hback:((x.toNat:Int)).toNat.toUInt8=x:=by simp
    cases hin:chars.data.toList.contains x
    ·rw[hin] at hcon;have hlt2:¬((0:Int)<=Lib.indexByte chars.data.toList x):=of_decide_eq_false hcon.symm;clear hcon
     go_wp2_with (go_at_fn (ρ.f 152);refine(Any.strings_IndexRune_ascii {L with} _ _ _ (by omega) (by omega)).mono ?_;rintro e w' ⟨rfl,hw⟩;rw[hw,hback])
     go_roundg (s.size-(i+1))
     case measure=>omega
     case rel=>exact⟨i+1,by omega,by omega,hio,hbo,HN.out.succ Hx.out hin⟩
    ·rw[hin] at hcon;have hge:(0:Int)<=Lib.indexByte chars.data.toList x:=of_decide_eq_true hcon.symm;clear hcon
     go_wp2_with (go_at_fn (ρ.f 152);refine(Any.strings_IndexRune_ascii {L with} _ _ _ (by omega) (by omega)).mono ?_;rintro e w' ⟨rfl,hw⟩;rw[hw,hback])
     go_ret
     exact⟨by rw[Lib.indexAny_hit HN.out Hx.out hin];rfl,hbo.out⟩
   ·have hhi:128<=(s[i]'hlt).toNat:=by rw[hx];omega
    have hnx:=fun ty=>run_next_any_at (P:=P) _ w.heap.size s i ty hk hlt
    have hd1:=decode_high s i hlt hhi;have hd2:=decode_le s i;have hsk:Aside (∀j,j<(Utf8.decode s i).2->i+j<s.size/\∀b,s.data.toList[i+j]? =some b->128<=b.toNat):=aed s i hlt hhi;generalize(Utf8.decode s i).1=c at hnx hd1 hd2;generalize(Utf8.decode s i).2=d at hnx hd1 hsk;have hle:i+d<=s.size:=by
     have:=(hsk.out (d-1) (by omega)).1
     omega
    have hio:=iterAt_heap _ w.heap.size s i (i+d) hk;have hbo:Aside (Below w.heap.size w _):=below_iterAt Dc.out (Nat.le_refl _) s (i+d);have hno:Aside (Lib.NoAny s.data.toList chars.data.toList (i+d)):=fun j b hj hb=>by
     by_cases hji:j<i
     ·exact HN.out j b hji hb
     ·have h3:=(hsk.out (j-i) (by omega)).2 b (by rw[show i+(j-i)=j by omega];exact hb)
      cases hc:chars.data.toList.contains b with
      |false=>rfl
      |true=>
       have hm:b∈chars.data.toList:=by simpa using hc
       obtain⟨k,hk2⟩:=List.getElem?_of_mem hm;have:=HA.out k b hk2;omega
    have hneg:¬((0:Int)<=-1):=by decide
    have hc0:(128:Int)<=(c:Int):=by omega
    have hc1:((c:Nat):Int)<=2147483647:=by omega
    clear hxl hx
    go_wp2_with (go_at_fn (ρ.f 152);refine(Any.adi {L with} _ _ _ hc0 hc1 hcs HA.out).mono ?_;rintro e w' ⟨rfl,hbw⟩)
    go_roundg (s.size-(i+d))
    case measure=>omega
    case rel=>exact⟨i+d,hle,by omega,(hbw.block _ (by simpa[iterAt_size] using hkl)).trans hio,hbo.out.trans (hbw.mono (by rw[iterAt_size];omega)),hno.out⟩
  ·obtain rfl:i=s.size:=by omega
   have hnx:=fun ty=>run_next_end_at (P:=P) _ w.heap.size s s.size ty hk (by omega)
   go_wp2
   go_ret
   exact⟨by rw[Lib.indexAny_none (by rw[<-Lib.size_eq];exact HN.out)];rfl,Dc.out⟩
theorem Any.adk(L:Lays.n153 P ρ)(h116:(P.info? (ρ.t 116)).map (fun i=>(i.zero,i.size))=some (some (.agg (Array.replicate 256 (.bool false))),256))(s chars:ByteArray)(w:World)(hs:s.size<4294967281)(h2:2<=chars.size)(hcs:chars.size<=1000000)(hac:oZ chars):
  Calls P (ρ.f 153) #[.string s,.string chars] w fun e w'=>e=.returned (.int .i64 (Lib.indexAny s.data.toList chars.data.toList))/\Below w.heap.size w w':=by
 by_cases h8:s.size<=8
 ·exact Any.acj L s chars w h2 h8 hcs hac
 ·refine(Any.strings_IndexAny_long L (zero_of_info h116).1 (zero_of_info h116).2 s chars w h2 (by omega) hs (by omega) hac).mono fun e w' ⟨h1,h2⟩=>⟨h1,?_⟩
  rw[h2];exact((Below.refl _ _).alloc (Nat.le_refl _) _).alloc (by simp) _
end Go.Proofs
namespace Go.Proofs
open Go.Jk
noncomputable def U5:aB:=DP
theorem aoa:ay O 214 U5:=ag2 (fun _ _=>enters_of Tryz.func214 (by kernel_rfl) rfl _ _) fun s p w h1 h2 h3 aE=>Any.adk Tryz.ale (by kernel_rfl) s p w h1 h2 h3 aE
noncomputable abbrev asG:a7:=[(102,vw),(214,U5),(215,Yp)]
theorem Zz:aQ O (aY ad asG):=aV ⟨Bv,aoa,apR,⟨⟩⟩
abbrev Re:Shape:=⟨[ak 0,au 2 2 0,au 4 4 0],[ar 2 [ah,aX,ah],ar 4 [ah,aX,ah]],49⟩
abbrev QW:List aO:=[(.norm,⟨[au 2 2 0,au 4 4 0],[ar 2 [ah,aX,ah],ar 4 [ah,aX,ah]],49⟩),(.ret,⟨[au 2 2 0,ap 3],[ar 2 [ah,aX,ah]],49⟩)]
noncomputable def mq(y:Re.F):Option (aA QW):=
(qb y.1.1 ([61,60,62]:J)).bind fun a=>
 bif(decide ((Lib.indexAny y.1.1 ([61,60,62]:J))>=(0:Int))) then
(bu y.1.1 (0:Int) (Lib.indexAny y.1.1 ([61,60,62]:J))).bind fun b=>
(bu y.1.1 (Lib.indexAny y.1.1 ([61,60,62]:J)) (y.1.1.length:Int)).bind fun c=>
(f215 ((c,([62,61]:J),()),())).bind fun d=>
 bif d.1.1 then
(bu c (2:Int) (c.length:Int)).bind fun e=>
 some (.inl (((),(),()),(y.2.1.1,y.2.1.2.1,y.2.1.2.2.1,()),(b,(2:Int),e,()),()))
else
(aN c (0:Int)).bind fun f=>
 bif((f.toNat:Int)==(61:Int)) then
(bu c (1:Int) (c.length:Int)).bind fun g=>
 some (.inl (((),(),()),(y.2.1.1,y.2.1.2.1,y.2.1.2.2.1,()),(b,(1:Int),g,()),()))
else
(aN c (0:Int)).bind fun h=>
 bif((h.toNat:Int)==(60:Int)) then
(bu c (1:Int) (c.length:Int)).bind fun i=>
 some (.inl (((),(),()),(y.2.1.1,y.2.1.2.1,y.2.1.2.2.1,()),(b,(3:Int),i,()),()))
else
 some (.inr (((),false,()),(([]:J),(0:Int),([]:J),()),()))
else
 some (.inl (((),(),()),(y.2.1.1,y.2.1.2.1,y.2.1.2.2.1,()),(y.2.2.1.1,y.2.2.1.2.1,y.2.2.1.2.2.1,()),()))
theorem akE:aT O (an (codeOf Tryz.f169) 1 14) (aU Re QW mq):=b8 Zz (by kernel_rfl) af fun y=>by kernel_rfl
abbrev i169:Shape:=⟨[ak 0],[],49⟩
abbrev Wz:Shape:=⟨[au 2 2 0,ap 3],[ar 2 [ah,aX,ah]],49⟩
noncomputable def f169(a:i169.F):Option Wz.F:=
(mq ((a.1.1,(),(),()),(([]:J),(0:Int),([]:J),()),(a.1.1,(0:Int),([]:J),()),())).bind fun b=>
(match b with
|.inl c=>
(f102 (((c.2.2.1.1,c.2.2.1.2.1,c.2.2.1.2.2.1,()),()),())).bind fun d=>
 bif(!d.1.1) then
 some (((),false,()),(([]:J),(0:Int),([]:J),()),())
else
 some (((),true,()),(c.2.2.1.1,c.2.2.1.2.1,c.2.2.1.2.2.1,()),())
|.inr e=>
 some (((),e.1.2.1,()),(e.2.1.1,e.2.1.2.1,e.2.1.2.2.1,()),()))
noncomputable def YO:aB:=aG ad Tryz.f169 i169 Wz [] f169
theorem aqa:ay O 169 YO:=aJ Zz Tryz.func169 (by kernel_rfl) (a6 akE af) (fun y=>by kernel_rfl) fun a=>by kernel_rfl
def hM:J:=[61,60,62]
theorem Pk:∀s:J,((∀y,y∈s->hM.contains y=false)/\Lib.indexAny s hM=-1)\/∃a x r,s=a++x::r/\hM.contains x=true/\(∀y,y∈a->hM.contains y=false)/\Lib.indexAny s hM=(a.length:Int):=by
 intro s;induction s with
 |nil=>exact .inl ⟨fun y h=>(by cases h),rfl⟩
 |cons b l ih=>
  unfold Lib.indexAny;cases hb:hM.contains b with
  |true=>exact .inr ⟨[],b,l,rfl,hb,fun y h=>(by cases h),rfl⟩
  |false=>
   rcases ih with⟨h1,h2⟩|⟨a,x,r,h1,h2,h3,aE⟩
   ·refine .inl ⟨fun y hy=>?_,?_⟩
    ·rcases List.mem_cons.1 hy with rfl|hy
     ·exact hb
     ·exact h1 y hy
    ·rw[h2];simp
   ·refine .inr ⟨b::a,x,r,by rw[h1];rfl,h2,fun y hy=>?_,?_⟩
    ·rcases List.mem_cons.1 hy with rfl|hy
     ·exact hb
     ·exact h3 y hy
    ·rw[aE];have:((a.length:Int)==-1)=false:=by rw[beq_eq_false_iff_ne];omega
     simp[this]
theorem alO{a r:J}{x:UInt8}(ha:∀y,y∈a->hM.contains y=false)(hx:hM.contains x=true):Lib.indexAny (a++x::r) hM=(a.length:Int):=by
 induction a with
 |nil=>show Lib.indexAny (x::r) hM=_;unfold Lib.indexAny;rw[hx];rfl
 |cons b a ih=>
  show Lib.indexAny (b::(a++x::r)) hM=_;unfold Lib.indexAny;have hb:=ha b List.mem_cons_self;rw[hb,ih fun y hy=>ha y (List.mem_cons_of_mem _ hy)]
  have:((a.length:Int)==-1)=false:=by rw[beq_eq_false_iff_ne];omega
  simp[this]
theorem anp{s:J}(h:∀y,y∈s->hM.contains y=false):Lib.indexAny s hM=-1:=by
 rcases Pk s with⟨_,h2⟩|⟨a,x,r,h1,h2,_,_⟩
 ·exact h2
 ·have:=h x (by rw[h1];simp)
  rw[h2] at this;cases this
theorem ajD{s:J}(h:s.length<=1000000):qb s ([61,60,62]:J)=some ():=by
 unfold qb;exact if_pos ⟨by omega,by decide,by decide,by decide⟩
def oJ(a t:J):Option bQ:=match t with
 |62::61::r=>some ⟨a,2,r⟩
 |61::r=>some ⟨a,1,r⟩
 |60::r=>some ⟨a,3,r⟩
 |_=>none
def ke(s:J):Option bQ:=match Lib.indexAny s hM with
 |.ofNat k=>oJ (s.take k) (s.drop k)
 |_=>some ⟨s,0,[]⟩
def ev(s:J):Option bQ:=match ke s with
 |some n=>bif dR n then some n else none
 |none=>none
def hT:bQ:=⟨[],0,[]⟩
theorem Oc(s:J)(hs:s.length<=1000000):f169 ((s,()),())=some (((),((ev s).isSome,())),((((ev s).getD hT).name,(((ev s).getD hT).kind,(((ev s).getD hT).bf,()))),())):=by
 have hk:∀n:bQ,n.name.length<=1000000->n.bf.length<=1000000->f102 (((n.name,(n.kind,(n.bf,()))),()),())=some ((dR n,()),()):=fun n h1 h2=>
  xi (((n.name,(n.kind,(n.bf,()))),()),()) (by show n.name.length<=2097152;omega) (by show n.bf.length<=2097152;omega)
 have fin:∀n:bQ,n.name.length<=1000000->n.bf.length<=1000000->ke s=some n->
   mq ((s,((),((),()))),((([]:J),((0:Int),(([]:J),()))),((s,((0:Int),(([]:J),()))),())))=some (.inl (((),((),())),((([]:J),((0:Int),(([]:J),()))),((n.name,(n.kind,(n.bf,()))),()))))->
   f169 ((s,()),())=some (((),((ev s).isSome,())),((((ev s).getD hT).name,(((ev s).getD hT).kind,(((ev s).getD hT).bf,()))),())):=by
  intro n h1 h2 hr hg;have tc:=hk n h1 h2;have hG:ev s=bif dR n then some n else none:=by unfold ev;rw[hr]
  simp only[f169,hg,Option.bind_some,tc,hG];cases dR n<;>rfl
 have dH:qb s ([61,60,62]:J)=some ():=ajD hs;rcases Pk s with⟨_,h2⟩|⟨a,x,r,h1,h2,h3,aE⟩
 ·refine fin ⟨s,0,[]⟩ hs (by simp) (by unfold ke;rw[h2];rfl) ?_
  have h2:Lib.indexAny s ([61,60,62]:J)=-1:=h2;have Z:decide ((-1:Int)>=0)=false:=rfl;simp only[mq,dH,Option.bind_some,h2,Z,cond_false]
 ·have nW:Lib.indexAny s ([61,60,62]:J)=(a.length:Int):=aE;have Z:decide ((a.length:Int)>=0)=true:=decide_eq_true (by omega)
  have hl:s.length=a.length+(x::r).length:=by rw[h1];simp
  have e1:bu s 0 ((a.length:Nat):Int)=some a:=by rw[ii (by omega),h1];simp
  have e2:bu s ((a.length:Nat):Int) ((s.length:Nat):Int)=some (x::r):=by rw[iI (by omega),h1];simp
  have hp:=acW (x::r) [62,61];have nN:aN (x::r) (0:Int)=some x:=rfl;have dO:ke s=oJ a (x::r):=by
   unfold ke;rw[aE];have d1:s.drop a.length=x::r:=by rw[h1];simp
   have d2:s.take a.length=a:=by rw[h1];simp
   show oJ (s.take a.length) (s.drop a.length)=_;rw[d1,d2]
  have no:ke s=none->mq ((s,((),((),()))),((([]:J),((0:Int),(([]:J),()))),((s,((0:Int),(([]:J),()))),())))=some (.inr (((),(false,())),((([]:J),((0:Int),(([]:J),()))),())))->
    f169 ((s,()),())=some (((),((ev s).isSome,())),((((ev s).getD hT).name,(((ev s).getD hT).kind,(((ev s).getD hT).bf,()))),())):=by
   intro hr hg;simp only[f169,hg,Option.bind_some];unfold ev;rw[hr];rfl
  have hx:x=61\/x=60\/x=62:=by simpa[hM] using h2
  have tk:a.length<=1000000:=by omega
  have qA:r.length<=1000000:=by simp at hl;omega
  rcases hx with rfl|rfl|rfl
  ·have hn:fB [62,61] (61::r)=none:=by unfold fB;cases r<;>simp
   rw[hn] at hp;refine fin ⟨a,1,r⟩ tk qA dO ?_
   have bv:bu (61::r) 1 (((61::r).length:Nat):Int)=some r:=iI (xs:=61::r) (a:=1) (by simp)
   have t1:((((61:UInt8).toNat:Nat):Int)==61)=true:=rfl;simp only[mq,dH,Option.bind_some,nW,Z,cond_true,e1,e2,hp,Option.isSome_none,cond_false,nN,t1,bv]
  ·have hn:fB [62,61] (60::r)=none:=by unfold fB;cases r<;>simp
   rw[hn] at hp;refine fin ⟨a,3,r⟩ tk qA dO ?_
   have bv:bu (60::r) 1 (((60::r).length:Nat):Int)=some r:=iI (xs:=60::r) (a:=1) (by simp)
   have t1:((((60:UInt8).toNat:Nat):Int)==61)=false:=rfl;have t2:((((60:UInt8).toNat:Nat):Int)==60)=true:=rfl;simp only[mq,dH,Option.bind_some,nW,Z,cond_true,e1,e2,hp,Option.isSome_none,cond_false,nN,t1,t2,bv]
  ·have t1:((((62:UInt8).toNat:Nat):Int)==61)=false:=rfl;have t2:((((62:UInt8).toNat:Nat):Int)==60)=false:=rfl;cases r with
   |nil=>
    have hn:fB [62,61] ([62]:J)=none:=by decide
    rw[hn] at hp;refine no dO ?_
    simp only[mq,dH,Option.bind_some,nW,Z,cond_true,e1,e2,hp,Option.isSome_none,cond_false,nN,t1,t2]
   |cons b r=>
    by_cases hb:b=61
    ·subst hb;have hn:fB [62,61] (62::61::r)=some r:=Pc [62,61] r;rw[hn] at hp;refine fin ⟨a,2,r⟩ tk (by simp at qA;show r.length<=1000000;omega) dO ?_
     have bv:bu (62::61::r) 2 (((62::61::r).length:Nat):Int)=some r:=iI (xs:=62::61::r) (a:=2) (by simp)
     simp only[mq,dH,Option.bind_some,nW,Z,cond_true,e1,e2,hp,Option.isSome_some,bv]
    ·have hn:fB [62,61] (62::b::r)=none:=by
      have hb2:(b==61)=false:=by simpa using hb
      unfold fB;simp[hb2]
     rw[hn] at hp;refine no (dO.trans ?_) ?_
     ·unfold oJ;split
      ·rename_i h;simp at h;exact absurd h.1 hb
      ·rename_i h;simp at h
      ·rename_i h;simp at h
      ·rfl
     ·simp only[mq,dH,Option.bind_some,nW,Z,cond_true,e1,e2,hp,Option.isSome_none,cond_false,nN,t1,t2]
theorem ah1{s:J}(h:∀x,x∈s->(97<=x.toNat/\x.toNat<=122)\/(48<=x.toNat/\x.toNat<=57)):∀y,y∈s->hM.contains y=false:=by
 intro y hy;have:=h y hy;cases hc:hM.contains y with
 |false=>rfl
 |true=>
  have hx:y=61\/y=60\/y=62:=by simpa[hM] using hc
  rcases hx with rfl|rfl|rfl<;>simp at this
theorem aga{n:bQ}(h:dR n=true):ke (dV n)=some n:=by
 obtain⟨h1,h2⟩:=MK h;have hno:=ah1 (MJ h1);obtain⟨dX,k,v⟩:=n;have key:∀(x:UInt8) (t:J),hM.contains x=true->ke (dX++x::t)=oJ dX (x::t):=by
  intro x t hx;unfold ke;rw[alO hno hx];have d1:(dX++x::t).drop dX.length=x::t:=by simp
  have d2:(dX++x::t).take dX.length=dX:=by simp
  show oJ ((dX++x::t).take dX.length) ((dX++x::t).drop dX.length)=_;rw[d1,d2]
 rcases h2 with⟨hk,hv⟩|⟨hk,hv⟩
 ·have hk:k=0:=hk;have hv:v=[]:=hv;subst hk hv;have e:dV ⟨dX,0,[]⟩=dX:=by unfold dV kX;simp
  rw[e];unfold ke;rw[anp hno];rfl
 ·rcases hk with hk|hk|hk
  ·have hk:k=1:=hk;subst hk;have e:dV ⟨dX,1,v⟩=dX++61::v:=by unfold dV kX;simp
   rw[e,key 61 v (by decide)];rfl
  ·have hk:k=2:=hk;subst hk;have e:dV ⟨dX,2,v⟩=dX++62::61::v:=by unfold dV kX;simp
   rw[e,key 62 (61::v) (by decide)];rfl
  ·have hk:k=3:=hk;subst hk;have e:dV ⟨dX,3,v⟩=dX++60::v:=by unfold dV kX;simp
   rw[e,key 60 v (by decide)];rfl
theorem ai8{n:bQ}(h:dR n=true):ev (dV n)=some n:=by
 unfold ev;rw[aga h];simp[h]
noncomputable abbrev asF:a7:=[(114,vt),(115,BX),(216,Yo)]
theorem B4:aQ O (aY ad asF):=aV ⟨Bu,IS,apQ,⟨⟩⟩
abbrev Rd:Shape:=⟨[au 2 2 0,ak 3,ap 4,ak 6,ap 7,aK 8 .str],[ar 2 [ah,aX,aX,ah]],110⟩
abbrev QV:List aO:=[(.norm,⟨[au 2 2 0,ak 3,ap 4,ak 6,aK 8 .str,ap 26],[ar 2 [ah,aX,aX,ah]],110⟩)]
noncomputable def uq(y:Rd.F):Option (aA QV):=
 bif(!(!y.1.2.2.2.2.1)) then
 some (((),y.1.2.1,y.1.2.2.1,y.1.2.2.2.1,y.1.2.2.2.2.2.1,(decide ((y.1.2.2.2.2.2.1.length:Int)<(3:Int))),()),(y.2.1.1,y.2.1.2.1,y.2.1.2.2.1,y.2.1.2.2.2.1,()),())
else
 some (((),y.1.2.1,y.1.2.2.1,y.1.2.2.2.1,y.1.2.2.2.2.2.1,true,()),(y.2.1.1,y.2.1.2.1,y.2.1.2.2.1,y.2.1.2.2.2.1,()),())
theorem akD:aT O (an (codeOf Tryz.f170) 1 60) (aU Rd QV uq):=b8 B4 (by kernel_rfl) af fun y=>by kernel_rfl
abbrev OI:Shape:=⟨[au 2 2 0,ak 3,ap 4,ak 6,aK 8 .str,ag 9],[ar 2 [ah,aX,aX,ah]],110⟩
abbrev Om:List aO:=[(.norm,⟨[au 2 2 0,ak 3,ap 4,ak 6,aK 8 .str,ag 9,ap 74],[ar 2 [ah,aX,aX,ah]],110⟩)]
noncomputable def Ey(y:OI.F):Option (aA Om):=
(aN y.1.2.2.2.2.1 (0:Int)).bind fun a=>
 bif(!(!(a==([102,105,108,101]:J)))) then
 some (((),y.1.2.1,y.1.2.2.1,y.1.2.2.2.1,y.1.2.2.2.2.1,y.1.2.2.2.2.2.1,((y.1.2.2.2.2.1.length:Int) !=(4:Int)),()),(y.2.1.1,y.2.1.2.1,y.2.1.2.2.1,y.2.1.2.2.2.1,()),())
else
 some (((),y.1.2.1,y.1.2.2.1,y.1.2.2.2.1,y.1.2.2.2.2.1,y.1.2.2.2.2.2.1,true,()),(y.2.1.1,y.2.1.2.1,y.2.1.2.2.1,y.2.1.2.2.2.1,()),())
theorem agr:aT O (an (codeOf Tryz.f170) 1 2044) (aU OI Om Ey):=b8 B4 (by kernel_rfl) af fun y=>by kernel_rfl
abbrev OH:Shape:=⟨[au 2 2 0,ak 3,ap 4,ak 6,aK 8 .str,ag 9,ap 10,ag 11],[ar 2 [ah,aX,aX,ah]],110⟩
abbrev Ol:List aO:=[(.norm,⟨[au 2 2 0,ak 3,ap 4,ak 6,aK 8 .str,ag 9,ag 11,ap 96],[ar 2 [ah,aX,aX,ah]],110⟩)]
noncomputable def Ex(y:OH.F):Option (aA Ol):=
 bif(!(!y.1.2.2.2.2.2.2.1)) then
 bif(!(decide ((y.1.2.2.2.1.length:Int)<=y.1.2.2.2.2.2.2.2.1))) then
(aN y.1.2.2.2.1 y.1.2.2.2.2.2.2.2.1).bind fun a=>
 some (((),y.1.2.1,y.1.2.2.1,y.1.2.2.2.1,y.1.2.2.2.2.1,y.1.2.2.2.2.2.1,y.1.2.2.2.2.2.2.2.1,((a.toNat:Int) !=(10:Int)),()),(y.2.1.1,y.2.1.2.1,y.2.1.2.2.1,y.2.1.2.2.2.1,()),())
else
 some (((),y.1.2.1,y.1.2.2.1,y.1.2.2.2.1,y.1.2.2.2.2.1,y.1.2.2.2.2.2.1,y.1.2.2.2.2.2.2.2.1,true,()),(y.2.1.1,y.2.1.2.1,y.2.1.2.2.1,y.2.1.2.2.2.1,()),())
else
 some (((),y.1.2.1,y.1.2.2.1,y.1.2.2.2.1,y.1.2.2.2.2.1,y.1.2.2.2.2.2.1,y.1.2.2.2.2.2.2.2.1,true,()),(y.2.1.1,y.2.1.2.1,y.2.1.2.2.1,y.2.1.2.2.2.1,()),())
theorem agq:aT O (an (codeOf Tryz.f170) 1 8188) (aU OH Ol Ex):=b8 B4 (by kernel_rfl) af fun y=>by kernel_rfl
abbrev i170:Shape:=⟨[ak 0],[],110⟩
abbrev I7:Shape:=⟨[au 2 2 0,ak 3,ap 4],[ar 2 [ah,aX,aX,ah]],110⟩
noncomputable def f170(a:i170.F):Option I7.F:=
(f114 ((a.1.1,([10]:J),()),())).bind fun b=>
(f216 ((b.1.1,([32]:J),(5:Int),()),())).bind fun c=>
(uq (((),([]:J),false,b.1.2.1,b.1.2.2.1,c.1.1,()),(([]:J),(0:Int),(0:Int),([]:J),()),())).bind fun d=>
 bif d.1.2.2.2.2.2.1 then
 some (((),([]:J),false,()),(([]:J),(0:Int),(0:Int),([]:J),()),())
else
(aN d.1.2.2.2.2.1 (0:Int)).bind fun e=>
 bif(e==([108,105,110,107]:J)) then
(aN d.1.2.2.2.2.1 (1:Int)).bind fun f=>
(aN d.1.2.2.2.2.1 (2:Int)).bind fun g=>
 some (((),d.1.2.2.2.1,((d.1.2.2.2.2.1.length:Int)==(3:Int)),()),(f,(3:Int),(0:Int),g,()),())
else
(aN d.1.2.2.2.2.1 (1:Int)).bind fun h=>
(f115 ((h,(7:Int),()),())).bind fun i=>
 bif(!i.1.2.1) then
 some (((),([]:J),false,()),(([]:J),(0:Int),(0:Int),([]:J),()),())
else
(aN d.1.2.2.2.2.1 (0:Int)).bind fun j=>
 bif(j==([100,105,114]:J)) then
(aN d.1.2.2.2.2.1 (2:Int)).bind fun k=>
 some (((),d.1.2.2.2.1,((d.1.2.2.2.2.1.length:Int)==(3:Int)),()),(k,(1:Int),i.1.1,([]:J),()),())
else
(Ey (((),d.1.2.1,d.1.2.2.1,d.1.2.2.2.1,d.1.2.2.2.2.1,i.1.1,()),(d.2.1.1,d.2.1.2.1,d.2.1.2.2.1,d.2.1.2.2.2.1,()),())).bind fun l=>
 bif l.1.2.2.2.2.2.2.1 then
 some (((),([]:J),false,()),(([]:J),(0:Int),(0:Int),([]:J),()),())
else
(aN l.1.2.2.2.2.1 (3:Int)).bind fun m=>
(f115 ((m,(80:Int),()),())).bind fun n=>
(Ex (((),l.1.2.1,l.1.2.2.1,l.1.2.2.2.1,l.1.2.2.2.2.1,l.1.2.2.2.2.2.1,n.1.2.1,n.1.1,()),(l.2.1.1,l.2.1.2.1,l.2.1.2.2.1,l.2.1.2.2.2.1,()),())).bind fun B=>
 bif B.1.2.2.2.2.2.2.2.1 then
 some (((),([]:J),false,()),(([]:J),(0:Int),(0:Int),([]:J),()),())
else
(aN B.1.2.2.2.2.1 (2:Int)).bind fun p=>
(bu B.1.2.2.2.1 (0:Int) B.1.2.2.2.2.2.2.1).bind fun q=>
(bu B.1.2.2.2.1 (IntKind.i64.wrap (B.1.2.2.2.2.2.2.1+(1:Int))) (B.1.2.2.2.1.length:Int)).bind fun r=>
 some (((),r,true,()),(p,(2:Int),B.1.2.2.2.2.2.1,q,()),())
noncomputable def YN:aB:=aG ad Tryz.f170 i170 I7 [] f170
theorem ap9:ay O 170 YN:=aJ B4 Tryz.func170 (by kernel_rfl) (a6 akD (a6 agr (a6 agq af))) (fun y=>by kernel_rfl) fun a=>by kernel_rfl
def A7(bB w2 ef r:J):Option (az×J):=bif e0 80 ef then(match r.drop (c5 ef).toNat with|10::fK=>some (⟨w2,2,c5 bB,r.take (c5 ef).toNat⟩,fK)|_=>none) else none
def ji(ws:List J)(r:J):Option (az×J):=match ws with
 |U::bB::w2::more=>
  bif U==k1 then(bif more==[] then some (⟨bB,3,0,w2⟩,r) else none)
  else bif e0 7 bB then
   (bif U==li then(bif more==[] then some (⟨w2,1,c5 bB,[]⟩,r) else none)
   else bif U==k4 then(match more with|[ef]=>A7 bB w2 ef r|_=>none) else none)
  else none
 |_=>none
def my(s:J):Option (az×J):=match dJ 10 s with
 |some (dE,r)=>ji (splitN 32 4 dE) r
 |none=>none
theorem aem{m:Int}{s:J}(h:e0 m s=true):0<=c5 s/\c5 s<=m:=by
 unfold e0 at h;simp only[Bool.and_eq_true,decide_eq_true_eq] at h;refine⟨?_,h.2⟩;have key:∀(s:J) (n:Int),s.all cK=true->0<=n->0<=s.foldl dT n:=by
  intro s;induction s with
  |nil=>intro n _ h;exact h
  |cons b s ih=>
   intro n Z hn;simp only[List.all_cons,Bool.and_eq_true] at Z;have hb:=ig Z.1;refine ih _ Z.2 ?_
   unfold dT;omega
 exact key s 0 h.1.1.1.1 (by decide)
theorem DH(c:UInt8):∀(k:Nat) (s p:J),p∈splitN c k s->p.length<=s.length:=by
 intro k;induction k with
 |zero=>intro s p h;simp[splitN] at h;subst h;exact Nat.le_refl _
 |succ k ih=>
  intro s p h;unfold splitN at h;cases hc:dJ c s with
  |none=>rw[hc] at h;simp at h;subst h;exact Nat.le_refl _
  |some q=>
   obtain⟨x,y⟩:=q;rw[hc] at h;have hl:=(kQ hc).1;have hl:s.length=x.length+1+y.length:=by rw[hl];simp;omega
   rcases List.mem_cons.1 h with rfl|h
   ·omega
   ·have:=ih y p h;omega
theorem aq2{aI:Type}(a b c:aI)(l:List aI):decide (((a::b::c::l).length:Int)<3)=false:=decide_eq_false (by simp;omega)
theorem awO{aI:Type}[BEq aI](a b c:aI)(l:List aI):(((a::b::c::l).length:Int)==3)=(l==[]):=by
 cases l with
 |nil=>rfl
 |cons x l=>
  have h:((x::l)==([]:List aI))=false:=rfl;rw[h,beq_eq_false_iff_ne];simp;omega
theorem MT(s:J)(hs:s.length<=1000000):∃(r:J) (e:az),f170 ((s,()),())=some (((),(r,((my s).isSome,()))),((e.path,(e.kind,(e.mode,(e.text,())))),()))/\∀q,my s=some q->q=(e,r):=by
 have hc:=mw 10 s (by unfold ax;omega)
 have hc:f114 ((s,(([10]:J),())),())=_:=hc;have zero:∀{B:Option (az×J)} {x:Option I7.F},B=none->x=some (((),(([]:J),(false,()))),((([]:J),((0:Int),((0:Int),(([]:J),())))),()))->
   ∃(r:J) (e:az),x=some (((),(r,(B.isSome,()))),((e.path,(e.kind,(e.mode,(e.text,())))),()))/\∀q,B=some q->q=(e,r):=by
  intro B x aL hx;subst aL;exact⟨[],⟨[],0,0,[]⟩,hx,fun q aC=>by cases aC⟩
 cases aC:dJ 10 s with
 |none=>
  have hw:=Oa (gJ 10 s) (by unfold gJ;rw[aC];show s.length<=1000000000;omega)
  rw[aC] at hc;refine zero (by unfold my;rw[aC]) ?_
  simp only[f170,hc,Option.bind_some,hw,uq,Option.isSome_none,Bool.not_false,Bool.not_true,cond_false,cond_true]
 |some q=>
  obtain⟨dE,rest⟩:=q;have hl:=(kQ aC).1;have hl:s.length=dE.length+1+rest.length:=by rw[hl];simp;omega
  have ha:gJ 10 s=dE:=by unfold gJ;rw[aC]
  have hb:gI 10 s=rest:=by unfold gI;rw[aC]
  have hw:=Oa dE (by omega)
  rw[aC,ha,hb] at hc;have hr:my s=ji (splitN 32 4 dE) rest:=by unfold my;rw[aC]
  have hm:=DH 32 4 dE;rw[hr];generalize splitN 32 4 dE=ws at hw hm;have short:decide ((ws.length:Int)<3)=true->ji ws rest=none->∃(r:J) (e:az),f170 ((s,()),())=some (((),(r,((ji ws rest).isSome,()))),((e.path,(e.kind,(e.mode,(e.text,())))),()))/\∀q,ji ws rest=some q->q=(e,r):=by
   intro h1 h2;refine zero h2 ?_
   simp only[f170,hc,Option.bind_some,hw,uq,Option.isSome_some,Bool.not_false,Bool.not_true,cond_false,cond_true,h1]
  match ws,short,hw,hm with
  |[],short,hw,hm=>exact short rfl rfl
  |[_],short,hw,hm=>exact short rfl rfl
  |[_,_],short,hw,hm=>exact short rfl rfl
  |U::bB::w2::more,_,hw,hm=>
   have mZ:aN (U::bB::w2::more) (0:Int)=some U:=rfl;have fH:aN (U::bB::w2::more) (1:Int)=some bB:=rfl;have fv:aN (U::bB::w2::more) (2:Int)=some w2:=rfl;have h3:=aq2 U bB w2 more;have eC:=awO U bB w2 more;have m1:=hm bB (by simp)
   have n1:=xg bB 7 (by unfold ax;omega)
   simp only[f170,hc,Option.bind_some,hw,uq,Option.isSome_some,Bool.not_false,Bool.not_true,cond_false,cond_true,h3,mZ,fH,fv,eC,n1];unfold ji;have aoX:(U==([108,105,110,107]:J))=(U==k1):=rfl;have arx:(U==([100,105,114]:J))=(U==li):=rfl;have aoZ:(U==([102,105,108,101]:J))=(U==k4):=rfl;simp only[aoX,arx];cases gT:U==k1 with
   |true=>
    simp only[cond_true];refine⟨rest,⟨bB,3,0,w2⟩,?_,fun q aC=>?_⟩
    ·cases more==[]<;>rfl
    ·cases KQ:more==[]<;>rw[KQ] at aC<;>simp at aC
     exact aC.symm
   |false=>
    simp only[cond_false];cases C5:e0 7 bB with
    |false=>
     simp only[Bool.not_false,cond_true,cond_false];exact zero rfl rfl
    |true=>
     simp only[Bool.not_true,cond_true,cond_false];cases C7:U==li with
     |true=>
      simp only[cond_true];refine⟨rest,⟨w2,1,c5 bB,[]⟩,?_,fun q aC=>?_⟩
      ·cases more==[]<;>rfl
      ·cases KQ:more==[]<;>rw[KQ] at aC<;>simp at aC
       exact aC.symm
     |false=>
      simp only[cond_false,Ey,mZ,Option.bind_some,aoZ];cases aAQ:U==k4 with
      |false=>
       simp only[Bool.not_false,Bool.not_true,cond_true,cond_false,Option.bind_some];exact zero rfl rfl
      |true=>
       simp only[Bool.not_false,Bool.not_true,cond_true,cond_false,Option.bind_some];match more,hm,mZ,fH,fv,h3,eC,hw with
       |[],hm,mZ,fH,fv,h3,eC,hw=>exact zero rfl rfl
       |ef::lu::m,hm,mZ,fH,fv,h3,eC,hw=>
        have:((((U::bB::w2::ef::lu::m).length:Nat):Int) !=4)=true:=by rw[bne_iff_ne];simp;omega
        simp only[this,cond_true];exact zero rfl rfl
       |[ef],hm,mZ,fH,fv,h3,eC,hw=>
        have aE:(((([U,bB,w2,ef]:List J).length:Nat):Int) !=4)=false:=rfl;have i_:aN [U,bB,w2,ef] (3:Int)=some ef:=rfl;have m3:=hm ef (by simp)
        have kA:=xg ef 80 (by unfold ax;omega)
        simp only[aE,cond_false,i_,Option.bind_some,kA,Ex];unfold A7;cases L3:e0 80 ef with
        |false=>
         simp only[Bool.not_false,Bool.not_true,cond_true,cond_false,Option.bind_some];exact zero rfl rfl
        |true=>
         obtain⟨b1,b2⟩:=aem L3;obtain⟨n,hn⟩:=Int.eq_ofNat_of_zero_le b1;simp only[Bool.not_false,Bool.not_true,cond_true,cond_false,Option.bind_some,hn,Int.toNat_natCast];rw[hn] at b2;by_cases hle:rest.length<=n
         ·have d1:decide (((rest.length:Nat):Int)<=(n:Int))=true:=decide_eq_true (by omega)
          have d2:rest.drop n=[]:=List.drop_eq_nil_of_le hle;simp only[d1,Bool.not_true,cond_false,Option.bind_some,cond_true,d2];exact zero rfl rfl
         ·have d1:decide (((rest.length:Nat):Int)<=(n:Int))=false:=decide_eq_false (by omega)
          obtain⟨b,fK,Z⟩:∃b fK,rest.drop n=b::fK:=by
           cases h:rest.drop n with
           |nil=>have:=List.drop_eq_nil_iff.1 h;omega
           |cons b fK=>exact⟨b,fK,rfl⟩
          have av3:aN rest (n:Int)=some b:=by
           rw[bY];have:rest[n]? =(rest.drop n)[0]? :=by simp
           rw[this,Z];rfl
          simp only[d1,Bool.not_false,cond_true,av3,Option.bind_some,Z];by_cases Le:b=10
          ·subst Le;have t:((((10:UInt8).toNat:Nat):Int) !=10)=false:=rfl;have s1:bu rest 0 (n:Int)=some (rest.take n):=ii (by omega)
           have hw1:IntKind.i64.wrap ((n:Int)+1)=((n+1:Nat):Int):=b4 (by unfold ax;omega)
           have c9:rest.drop (n+1)=fK:=by rw[<-List.drop_drop,Z];rfl
           have s2:bu rest ((n+1:Nat):Int) ((rest.length:Nat):Int)=some fK:=by rw[iI (by omega),c9]
           simp only[t,cond_false,s1,hw1,s2,Option.bind_some];exact⟨fK,⟨w2,2,c5 bB,rest.take n⟩,rfl,fun q aC=>by simp at aC;exact aC.symm⟩
          ·have t:(((b.toNat:Nat):Int) !=10)=true:=by
            rw[bne_iff_ne];intro h;exact Le (UInt8.toNat_inj.1 (by show b.toNat=10;omega))
           simp only[t,cond_true];refine zero ?_ rfl;split
           ·rename_i h;cases h;exact absurd rfl Le
           ·rfl
noncomputable abbrev atc:a7:=[(105,vu),(170,YN)]
theorem Ka:aQ O (aY ad atc):=aV ⟨z105,ap9,⟨⟩⟩
abbrev ON:Shape:=⟨[a_ 4 3000256,au 6 6 0,ak 7,ap 8],[a8 3000256 .entry 4 0,ar 6 [ah,aX,aX,ah]],34⟩
abbrev Ou:List aO:=[(.norm,⟨[a_ 4 3000256,au 6 6 0,ak 7,ap 24],[a8 3000256 .entry 4 0,ar 6 [ah,aX,aX,ah]],34⟩)]
noncomputable def rl(y:ON.F):Option (aA Ou):=
 bif(!(!y.1.2.2.2.1)) then
 some (((),(),y.1.2.2.1,((y.2.1.length:Int)==(16:Int)),()),y.2.1,(y.2.2.1.1,y.2.2.1.2.1,y.2.2.1.2.2.1,y.2.2.1.2.2.2.1,()),())
else
 some (((),(),y.1.2.2.1,true,()),y.2.1,(y.2.2.1.1,y.2.2.1.2.1,y.2.2.1.2.2.1,y.2.2.1.2.2.2.1,()),())
theorem agB:aT O (an (cN (an (codeOf Tryz.f118) 1 60)) 120 3860) (aU ON Ou rl):=b8 Ka (by kernel_rfl) af fun y=>by kernel_rfl
abbrev y9:Shape:=⟨[a_ 4 3000256,ak 5],[a8 3000256 .entry 4 0],34⟩
abbrev Gt:List aO:=[(.ret,⟨[a_ 2 3000128,ap 3],[a8 3000128 .entry 2 0],34⟩),(.exit 0,⟨[a_ 4 3000256],[a8 3000256 .entry 4 0],34⟩)]
noncomputable def pR(y:y9.F):bD y9 Gt:=
 bif(!(y.1.2.1==([]:J))) then
(f170 ((y.1.2.1,()),())).bind fun a=>
(rl (((),(),a.1.2.1,a.1.2.2.1,()),y.2.1,(a.2.1.1,a.2.1.2.1,a.2.1.2.2.1,a.2.1.2.2.2.1,()),())).bind fun b=>
 bif b.1.2.2.2.1 then
 some (.inr (.inl (((),false,()),([]:List az),())))
else
(cj 48 b.2.1 ([(az.mk b.2.2.1.1 b.2.2.1.2.1 b.2.2.1.2.2.1 b.2.2.1.2.2.2.1)]:List az)).bind fun c=>
 some (.inl (((),b.1.2.2.1,()),c,()))
else
 some (.inr (.inr (((),()),y.2.1,())))
noncomputable def uj:y9.F->Option (aA Gt):=bo pR
theorem akY:aT O (an (codeOf Tryz.f118) 1 60) (aU y9 Gt uj):=bE Ka (by kernel_rfl) (a6 agB af) fun y=>by kernel_rfl
abbrev i118:Shape:=⟨[ak 0],[],34⟩
abbrev Xa:Shape:=⟨[a_ 2 3000128,ap 3],[a8 3000128 .entry 2 0],34⟩
noncomputable def f118(a:i118.F):Option Xa.F:=
(uj (((),a.1.1,()),([]:List az),())).bind fun b=>
(match b with
|.inl c=>
 some (((),c.1.2.1,()),c.2.1,())
|.inr d=>
(f105 ((d.2.1,()),())).bind fun e=>
 bif(!e.1.1) then
 some (((),false,()),([]:List az),())
else
 some (((),true,()),d.2.1,()))
noncomputable def Zf:aB:=aG ad Tryz.f118 i118 Xa [] f118
theorem aqr:ay O 118 Zf:=aJ Ka Tryz.func118 (by kernel_rfl) (a6 akY af) (fun y=>by kernel_rfl) fun a=>by kernel_rfl
theorem Fc{n:Nat}{m:Int}(h:(n:Int)<=m)(hH:n<1000000000):e0 m (Lib.itoa (n:Int))=true/\c5 (Lib.itoa (n:Int))=(n:Int):=by
 rw[tY];exact⟨aiO h hH,R_ n⟩
theorem ac2(ws:List J)(k:Nat)(h:ws≠[])(hn:∀w,w∈ws->cF 32 w)(hk:ws.length<=k+1):splitN 32 k (k2 ws)=ws:=by
 have:=NN h hn;rw[DJ 32 k _ (by rw[this];exact hk),this]
theorem OS{e:az}(h:eN e=true)(r:J):my (eE e++r)=some (e,r):=by
 have hw:=(N3 h).1;unfold my;rw[agV h];show ji (splitN 32 4 (su e)) (A_ e r)=_;obtain⟨n,hn,hX⟩:=P' h;obtain⟨g1,g2⟩:=Fc (n:=n) (m:=7) (by omega) (by omega)
 have avC:splitN 32 4 (su e)=oz e:=ac2 _ 4 (by unfold oz;cases e.kind==1<;>cases e.kind==3<;>simp) hw (by unfold oz;cases e.kind==1<;>cases e.kind==3<;>simp)
 rw[avC];obtain⟨p,k,m,t⟩:=e;have hn:m=n:=hn;subst hn;rcases xd h with hk|hk|hk
 ·have hk:k=1:=hk;subst hk;have aw:t=[]:=ahb h rfl;subst aw;show ji [li,Lib.itoa (n:Int),p] r=_;unfold ji;have e1:(li==k1)=false:=by decide
  have e2:(li==li)=true:=by decide
  simp only[e1,e2,g1,g2,cond_true,cond_false];rfl
 ·have hk:k=2:=hk;subst hk;have hb:t.length<=80:=by
   have:=aff h rfl;unfold oB at this;simp only[Bool.and_eq_true,decide_eq_true_eq] at this;exact this.2
  obtain⟨aD,aF⟩:=Fc (n:=t.length) (m:=80) (by omega) (by omega)
  show ji [k4,Lib.itoa (n:Int),p,Lib.itoa (t.length:Int)] (t++10::r)=_;unfold ji;have e1:(k4==k1)=false:=by decide
  have e2:(k4==li)=false:=by decide
  have bv:(k4==k4)=true:=by decide
  simp only[e1,e2,bv,g1,g2,cond_true,cond_false];unfold A7;have d1:(t++10::r).drop t.length=10::r:=by simp
  have d2:(t++10::r).take t.length=t:=by simp
  simp only[aD,aF,cond_true,Int.toNat_natCast,d1,d2,g2]
 ·have hk:k=3:=hk;subst hk;obtain⟨_,hm⟩:=NV h rfl;have hm:(n:Int)=0:=hm;show ji [k1,p,t] r=_;unfold ji;have e1:(k1==k1)=true:=by decide
  simp only[e1,cond_true];rw[hm];rfl
theorem Ef{s r:J}{e:az}(h:my s=some (e,r)):e.path.length<=s.length/\e.text.length<=s.length/\r.length<s.length:=by
 unfold my at h;cases aC:dJ 10 s with
 |none=>rw[aC] at h;cases h
 |some q=>
  obtain⟨dE,rest⟩:=q;rw[aC] at h;have hl:=(kQ aC).1;have hl:s.length=dE.length+1+rest.length:=by rw[hl];simp;omega
  have hm:=DH 32 4 dE;have h:ji (splitN 32 4 dE) rest=some (e,r):=h;generalize splitN 32 4 dE=ws at h hm;match ws,h,hm with
  |[],h,hm=>cases h
  |[_],h,hm=>cases h
  |[_,_],h,hm=>cases h
  |U::bB::w2::more,h,hm=>
   have m1:=hm bB (by simp)
   have m2:=hm w2 (by simp)
   unfold ji at h;simp only at h;cases gT:U==k1<;>simp only[gT,cond_true,cond_false] at h
   ·cases e1:e0 7 bB<;>simp only[e1,cond_true,cond_false] at h
    ·cases h
    ·cases e2:U==li<;>simp only[e2,cond_true,cond_false] at h
     ·cases bv:U==k4<;>simp only[bv,cond_true,cond_false] at h
      ·cases h
      ·split at h
       ·rename_i ef;unfold A7 at h;cases dq:e0 80 ef<;>simp only[dq,cond_true,cond_false] at h
        ·cases h
        ·split at h
         ·rename_i fK Z;simp only[Option.some.injEq,Prod.mk.injEq] at h;obtain⟨rfl,rfl⟩:=h;have avZ:=congrArg List.length Z;simp only[List.length_drop,List.length_cons] at avZ;refine⟨by show w2.length<=_;omega,by show(rest.take _).length<=_;simp;omega,by omega⟩
         ·cases h
       ·cases h
     ·cases bv:more==[]<;>simp only[bv,cond_true,cond_false] at h
      ·cases h
      ·simp only[Option.some.injEq,Prod.mk.injEq] at h;obtain⟨rfl,rfl⟩:=h;exact⟨by show w2.length<=_;omega,by show 0<=_;omega,by omega⟩
   ·cases bv:more==[]<;>simp only[bv,cond_true,cond_false] at h
    ·cases h
    ·simp only[Option.some.injEq,Prod.mk.injEq] at h;obtain⟨rfl,rfl⟩:=h;exact⟨by show bB.length<=_;omega,by show w2.length<=_;omega,by omega⟩
def B9(k:Nat)(t:List az):Prop:=∀e,e∈t->e.path.length<=k/\e.text.length<=k
theorem ami:∀(m:Nat) (s:J) (t:List az),s.length<=m->m<=1000000->t.length<=16->B9 1000000 t->
  (∃ns:List az,uj (((),(s,())),(t,()))=some (.inr (((),()),(ns,())))/\ns.length<=16/\B9 1000000 ns)\/uj (((),(s,())),(t,()))=some (.inl (((),(false,())),(([]:List az),()))):=by
 intro m;induction m with
 |zero=>
  intro s t hs _ aw ha;have:s=[]:=List.length_eq_zero_iff.1 (by omega)
  subst this;exact .inl ⟨t,de rfl,aw,ha⟩
 |succ m ih=>
  intro s t hs hm aw ha;cases s with
  |nil=>exact .inl ⟨t,de rfl,aw,ha⟩
  |cons b iB=>
   have hne:((b::iB)==([]:J))=false:=rfl;generalize eD:b::iB=s at hs hne;obtain⟨r,e,h1,h2⟩:=MT s (by omega)
   cases hr:my s with
   |none=>
    rw[hr] at h1;refine .inr (de ?_);simp only[pR,hne,Bool.not_false,cond_true,h1,Option.bind_some,Option.isSome_none,rl,Bool.not_true,cond_false]
   |some q=>
    have aC:=h2 q hr;subst aC;rw[hr] at h1;obtain⟨dF,fw,wC⟩:=Ef hr;by_cases CJ:t.length=16
    ·refine .inr (de ?_);have d:(((t.length:Nat):Int)==16)=true:=by rw[beq_iff_eq];omega
     simp only[pR,hne,Bool.not_false,cond_true,h1,Option.bind_some,Option.isSome_some,rl,Bool.not_true,cond_false,d]
    ·have d:(((t.length:Nat):Int)==16)=false:=by rw[beq_eq_false_iff_ne];omega
     have iY:cj 48 t ([(az.mk e.path e.kind e.mode e.text)]:List az)=some (t++[e]):=dt (by decide) (by unfold ax;simp;omega)
     have st:pR (((),(s,())),(t,()))=some (.inl (((),(r,())),(t++[e],()))):=by
      simp only[pR,hne,Bool.not_false,cond_true,h1,Option.bind_some,Option.isSome_some,rl,Bool.not_true,cond_false,d,iY]
     have arP:B9 1000000 (t++[e]):=fun x hx=>by
      rcases List.mem_append.1 hx with hx|hx
      ·exact ha x hx
      ·rw[List.mem_singleton.1 hx];exact⟨by omega,by omega⟩
     rcases ih r (t++[e]) (by omega) (by omega) (by simp;omega) arP with⟨ns,g1,g2,g3⟩|g1
     ·exact .inl ⟨ns,(fc st).trans g1,g2,g3⟩
     ·exact .inr ((fc st).trans g1)
theorem amh:∀(cU t:List az),(∀e,e∈cU->eN e=true)->t.length+cU.length<=16->(eM cU).length<=1000000->
  uj (((),(eM cU,())),(t,()))=some (.inr (((),()),(t++cU,()))):=by
 intro cU;induction cU with
 |nil=>intro t _ _ _;rw[List.append_nil];exact de rfl
 |cons e cU ih=>
  intro t h aw hl;have he:=h e List.mem_cons_self;have hr:=OS he (eM cU);have hE:eM (e::cU)=eE e++eM cU:=by unfold eM;rw[List.flatMap_cons]
  rw[hE] at hl ⊢;have hlen:=(Ef hr).2.2;have hne:((eE e++eM cU)==([]:J))=false:=by
   cases hx:eE e++eM cU with
   |nil=>rw[hx] at hlen;simp at hlen
   |cons b r=>rfl
  obtain⟨r,cy,h1,h2⟩:=MT (eE e++eM cU) hl;have aC:=h2 _ hr;simp only[Prod.mk.injEq] at aC;obtain⟨rfl,rfl⟩:=aC;rw[hr] at h1;have d:(((t.length:Nat):Int)==16)=false:=by rw[beq_eq_false_iff_ne];simp at aw;omega
  have iY:cj 48 t ([(az.mk e.path e.kind e.mode e.text)]:List az)=some (t++[e]):=dt (by decide) (by unfold ax;simp;simp at aw;omega)
  have st:pR (((),(eE e++eM cU,())),(t,()))=some (.inl (((),(eM cU,())),(t++[e],()))):=by
   simp only[pR,hne,Bool.not_false,cond_true,h1,Option.bind_some,Option.isSome_some,rl,Bool.not_true,cond_false,d,iY]
  have:=ih (t++[e]) (fun x hx=>h x (List.mem_cons_of_mem _ hx)) (by simp at aw ⊢;omega) (by omega)
  rw[List.append_assoc] at this;exact(fc st).trans this
theorem aco(s:J)(hs:s.length<=1000000):∃(ok:Bool) (t:List az),f118 ((s,()),())=some (((),(ok,())),(t,()))/\t.length<=16/\B9 1000000 t:=by
 rcases ami s.length s [] (Nat.le_refl _) hs (by decide) (fun x hx=>by cases hx) with⟨ns,g1,g2,g3⟩|g1
 ·have aw:=pv ((ns,()),()) ⟨by show ns.length<=2097152;omega,fun e he=>by have:=g3 e he;exact⟨by show e.path.length<=2097152;omega,by show e.text.length<=2097152;omega⟩⟩
  have aw:f105 ((ns,()),())=some ((dC ns,()),()):=aw;simp only[f118,g1,Option.bind_some,aw];cases dC ns with
  |false=>exact⟨false,[],rfl,by simp,fun x hx=>by cases hx⟩
  |true=>exact⟨true,ns,rfl,g2,g3⟩
 ·simp only[f118,g1,Option.bind_some];exact⟨false,[],rfl,by simp,fun x hx=>by cases hx⟩
theorem acn(t:List az)(h:dC t=true)(hs:(eM t).length<=1000000)(hb:iu t):
  f118 ((eM t,()),())=some (((),(true,())),(t,())):=by
 have g1:=amh t [] (w3 h) (by have:=kM h;simpa using this) hs
 have aw:=pv ((t,()),()) hb;have aw:f105 ((t,()),())=some ((dC t,()),()):=aw;simp only[f118,g1,List.nil_append,Option.bind_some,aw,h,Bool.not_true,cond_false]
noncomputable abbrev atd:a7:=[(114,vt),(168,YP),(169,YO)]
theorem Kb:aQ O (aY ad atd):=aV ⟨Bu,z168,aqa,⟨⟩⟩
abbrev OO:Shape:=⟨[a_ 5 3000320,ak 7,ap 10,au 11 11 0,ap 12],[a8 3000320 .need 5 0,ar 11 [ah,aX,ah]],46⟩
abbrev Ov:List aO:=[(.norm,⟨[a_ 5 3000320,ak 7,au 11 11 0,ap 40],[a8 3000320 .need 5 0,ar 11 [ah,aX,ah]],46⟩)]
noncomputable def tU(y:OO.F):Option (aA Ov):=
 bif(!(!y.1.2.2.1)) then
 some (((),y.1.2.1,(),(!y.1.2.2.2.2.1),()),y.2.1,(y.2.2.1.1,y.2.2.1.2.1,y.2.2.1.2.2.1,()),())
else
 some (((),y.1.2.1,(),true,()),y.2.1,(y.2.2.1.1,y.2.2.1.2.1,y.2.2.1.2.2.1,()),())
theorem agC:aT O (an (cN (an (codeOf Tryz.f117) 1 14)) 28 7292) (aU OO Ov tU):=b8 Kb (by kernel_rfl) af fun y=>by kernel_rfl
abbrev y_:Shape:=⟨[ak 0,a_ 5 3000320],[a8 3000320 .need 5 0],46⟩
abbrev Gu:List aO:=[(.ret,⟨[a_ 2 3000128,ak 3,ap 4],[a8 3000128 .need 2 0],46⟩)]
noncomputable def lH(y:y_.F):bD y_ Gu:=
(f114 ((y.1.1,([10]:J),()),())).bind fun a=>
 bif(!a.1.2.2.1) then
 some (.inr (((),([]:J),false,()),([]:List bQ),()))
else
 bif(a.1.1==([]:J)) then
 some (.inr (((),a.1.2.1,true,()),y.2.1,()))
else
(f168 ((a.1.1,([110,101,101,100,32]:J),()),())).bind fun b=>
(f169 ((b.1.1,()),())).bind fun c=>
(tU (((),a.1.2.1,b.1.2.1,(),c.1.2.1,()),y.2.1,(c.2.1.1,c.2.1.2.1,c.2.1.2.2.1,()),())).bind fun d=>
 bif d.1.2.2.2.1 then
 some (.inr (((),([]:J),false,()),([]:List bQ),()))
else
(cj 40 d.2.1 ([(bQ.mk d.2.2.1.1 d.2.2.1.2.1 d.2.2.1.2.2.1)]:List bQ)).bind fun e=>
 some (.inl ((d.1.2.1,(),()),e,()))
noncomputable def zi:y_.F->Option (aA Gu):=bo lH
theorem akZ:aT O (an (codeOf Tryz.f117) 1 14) (aU y_ Gu zi):=bE Kb (by kernel_rfl) (a6 agC af) fun y=>by kernel_rfl
abbrev i117:Shape:=⟨[ak 0],[],46⟩
abbrev Xb:Shape:=⟨[a_ 2 3000128,ak 3,ap 4],[a8 3000128 .need 2 0],46⟩
noncomputable def f117(a:i117.F):Option Xb.F:=
(zi ((a.1.1,(),()),([]:List bQ),())).bind fun b=>
 some (((),b.1.2.1,b.1.2.2.1,()),b.2.1,())
noncomputable def Zg:aB:=aG ad Tryz.f117 i117 Xb [] f117
theorem z117:ay O 117 Zg:=aJ Kb Tryz.func117 (by kernel_rfl) (a6 akZ af) (fun y=>by kernel_rfl) fun a=>by kernel_rfl
def B8(k:Nat)(t:List bQ):Prop:=∀e,e∈t->e.name.length<=k/\e.bf.length<=k
theorem af9{a t:J}{n:bQ}(h:oJ a t=some n):n.name=a/\n.bf.length<=t.length:=by
 unfold oJ at h;split at h
 ·cases h;exact⟨rfl,by simp;omega⟩
 ·cases h;exact⟨rfl,by simp⟩
 ·cases h;exact⟨rfl,by simp⟩
 ·cases h
theorem agb{s:J}{n:bQ}(h:ke s=some n):n.name.length<=s.length/\n.bf.length<=s.length:=by
 unfold ke at h;split at h
 ·rename_i k _;obtain⟨h1,h2⟩:=af9 h;rw[h1];simp at h2 ⊢;omega
 ·cases h;exact⟨Nat.le_refl _,by simp⟩
theorem ai9(s:J):((ev s).getD hT).name.length<=s.length/\((ev s).getD hT).bf.length<=s.length:=by
 have no:ev s=none->((ev s).getD hT).name.length<=s.length/\((ev s).getD hT).bf.length<=s.length:=fun h=>by
  rw[h];exact⟨Nat.zero_le _,Nat.zero_le _⟩
 cases h:ke s with
 |none=>exact no (by unfold ev;rw[h])
 |some n=>
  have hG:ev s=bif dR n then some n else none:=by unfold ev;rw[h]
  cases hk:dR n with
  |true=>rw[hG,hk];exact agb h
  |false=>exact no (by rw[hG,hk];rfl)
theorem ahd{p s r:J}(h:fB p s=some r):r.length<=s.length:=by
 unfold fB at h;cases hc:decide (p.length<=s.length)&&s.take p.length==p with
 |false=>rw[hc] at h;cases h
 |true=>rw[hc] at h;cases h;simp
theorem aja(p s:J):((fB p s).getD s).length<=s.length:=by
 cases h:fB p s with
 |none=>exact Nat.le_refl _
 |some r=>exact ahd h
theorem aml:∀(m:Nat) (s:J) (t:List bQ),s.length<=m->t.length+m<=1000000->B8 1000000 t->
  ∃(r:J) (ok:Bool) (ns:List bQ),zi ((s,((),())),(t,()))=some (((),(r,(ok,()))),(ns,()))/\r.length<=s.length/\ns.length<=1000000/\B8 1000000 ns:=by
 intro m;induction m with
 |zero=>
  intro s t hs aw ha;have:s=[]:=List.length_eq_zero_iff.1 (by omega)
  subst this;have hc:=mw 10 [] (by unfold ax;simp)
  have hc:f114 ((([]:J),(([10]:J),())),())=some ((([]:J),(([]:J),(false,()))),()):=hc;refine⟨[],false,[],de ?_,by simp,by simp,fun x hx=>by cases hx⟩
  simp only[lH,hc,Option.bind_some,Bool.not_false,cond_true]
 |succ m ih=>
  intro s t hs aw ha;have hc:=mw 10 s (by unfold ax;omega)
  have hc:f114 ((s,(([10]:J),())),())=_:=hc;cases aC:dJ 10 s with
  |none=>
   rw[aC] at hc;refine⟨[],false,[],de ?_,by simp,by simp,fun x hx=>by cases hx⟩
   simp only[lH,hc,Option.bind_some,Option.isSome_none,Bool.not_false,cond_true]
  |some q=>
   obtain⟨dE,rest⟩:=q;have hl:=(kQ aC).1;have hl:s.length=dE.length+1+rest.length:=by rw[hl];simp;omega
   have dH:gJ 10 s=dE:=by unfold gJ;rw[aC]
   have hB:gI 10 s=rest:=by unfold gI;rw[aC]
   rw[aC,dH,hB] at hc;cases he:dE==([]:J) with
   |true=>
    refine⟨rest,true,t,de ?_,by omega,by omega,ha⟩
    simp only[lH,hc,Option.bind_some,Option.isSome_some,Bool.not_true,cond_false,he,cond_true]
   |false=>
    have hp:=MX dE [110,101,101,100,32];have hp:f168 ((dE,(([110,101,101,100,32]:J),())),())=_:=hp;have bi:=aja [110,101,101,100,32] dE;generalize(fB [110,101,101,100,32] dE).getD dE=w at hp bi;have hn:=Oc w (by omega)
    have Cz:=ai9 w;cases ca:(fB [110,101,101,100,32] dE).isSome&&(ev w).isSome with
    |false=>
     refine⟨[],false,[],de ?_,by simp,by simp,fun x hx=>by cases hx⟩
     simp only[lH,hc,Option.bind_some,Option.isSome_some,Bool.not_true,cond_false,he,hp,hn,tU];cases hX:(fB [110,101,101,100,32] dE).isSome with
     |false=>simp only[Bool.not_false,Bool.not_true,cond_false,cond_true,Option.bind_some]
     |true=>
      rw[hX] at ca;have ca:(ev w).isSome=false:=ca;simp only[ca,Bool.not_false,Bool.not_true,cond_false,cond_true,Option.bind_some]
    |true=>
     rw[Bool.and_eq_true] at ca;have iY:cj 40 t ([(bQ.mk ((ev w).getD hT).name ((ev w).getD hT).kind ((ev w).getD hT).bf)]:List bQ)=some (t++[(ev w).getD hT]):=dt (by decide) (by unfold ax;simp;omega)
     have st:lH ((s,((),())),(t,()))=some (.inl ((rest,((),())),(t++[(ev w).getD hT],()))):=by
      simp only[lH,hc,Option.bind_some,Option.isSome_some,Bool.not_true,cond_false,he,hp,hn,tU,ca.1,ca.2,Bool.not_false,cond_true,iY]
     obtain⟨r,ok,ns,g1,g2,g3,g4⟩:=ih rest (t++[(ev w).getD hT]) (by omega) (by simp;omega) (fun x hx=>by
      rcases List.mem_append.1 hx with hx|hx
      ·exact ha x hx
      ·rw[List.mem_singleton.1 hx];exact⟨by omega,by omega⟩)
     exact⟨r,ok,ns,(fc st).trans g1,by omega,g3,g4⟩
theorem amk:∀(ns t:List bQ) (r:J),(∀n,n∈ns->dR n=true)->t.length+ns.length<=1000->(ns.flatMap dm++10::r).length<=1000000->
  zi ((ns.flatMap dm++10::r,((),())),(t,()))=some (((),(r,(true,()))),(t++ns,())):=by
 intro ns;induction ns with
 |nil=>
  intro t r _ _ hs;have hc:=mw 10 (10::r) (by unfold ax;simp at hs ⊢;omega)
  have dH:gJ 10 (10::r)=[]:=by unfold gJ;rw[HX]
  have hB:gI 10 (10::r)=r:=by unfold gI;rw[HX]
  rw[dH,hB,HX] at hc;have hc:f114 ((10::r,(([10]:J),())),())=some ((([]:J),(r,(true,()))),()):=hc;have he:(([]:J)==([]:J))=true:=rfl;rw[List.append_nil];refine de ?_
  show lH ((10::r,((),())),(t,()))=_;simp only[lH,hc,Option.bind_some,Bool.not_true,cond_false,he,cond_true]
 |cons n ns ih=>
  intro t r h aw hs;have hk:=h n List.mem_cons_self;have gH:=agI (n:=n) (ns:=ns) (r:=10::r) hk;generalize eD:(n::ns).flatMap dm++10::r=s at hs gH;have hc:=mw 10 s (by unfold ax;omega)
  have hl:=(kQ gH).1;have hl:s.length=(kZ++32::dV n).length+1+(ns.flatMap dm++10::r).length:=by rw[hl];simp;omega
  have dH:gJ 10 s=kZ++32::dV n:=by unfold gJ;rw[gH]
  have hB:gI 10 s=ns.flatMap dm++10::r:=by unfold gI;rw[gH]
  rw[dH,hB,gH] at hc;have hc:f114 ((s,(([10]:J),())),())=some ((kZ++32::dV n,(ns.flatMap dm++10::r,(true,()))),()):=hc;have he:((kZ++32::dV n)==([]:J))=false:=rfl;have Z:fB [110,101,101,100,32] (kZ++32::dV n)=some (dV n):=Pc [110,101,101,100,32] (dV n);have hp:=MX (kZ++32::dV n) [110,101,101,100,32];rw[Z] at hp;have hp:f168 ((kZ++32::dV n,(([110,101,101,100,32]:J),())),())=some ((dV n,(true,())),()):=hp;have hn:=Oc (dV n) (by simp[kZ] at hl;omega)
  rw[ai8 hk] at hn;have hn:f169 ((dV n,()),())=some (((),(true,())),((n.name,(n.kind,(n.bf,()))),())):=hn;have iY:cj 40 t ([(bQ.mk n.name n.kind n.bf)]:List bQ)=some (t++[n]):=dt (by decide) (by unfold ax;simp;simp at aw;omega)
  have st:lH ((s,((),())),(t,()))=some (.inl ((ns.flatMap dm++10::r,((),())),(t++[n],()))):=by
   simp only[lH,hc,Option.bind_some,Bool.not_true,cond_false,he,hp,hn,tU,Bool.not_false,cond_true,iY]
  have:=ih (t++[n]) r (fun x hx=>h x (List.mem_cons_of_mem _ hx)) (by simp at aw ⊢;omega) (by omega)
  rw[List.append_assoc] at this;exact(fc st).trans this
theorem acg(s:J)(hs:s.length<=1000000):∃(r:J) (ok:Bool) (ns:List bQ),f117 ((s,()),())=some (((),(r,(ok,()))),(ns,()))/\r.length<=s.length/\ns.length<=1000000/\B8 1000000 ns:=by
 obtain⟨r,ok,ns,g1,g2⟩:=aml s.length s [] (Nat.le_refl _) (by simpa using hs) (fun x hx=>by cases hx)
 exact⟨r,ok,ns,by simp only[f117,g1,Option.bind_some],g2⟩
theorem acf(ns:List bQ)(r:J)(h:∀n,n∈ns->dR n=true)(hl:ns.length<=1000)(hs:(ns.flatMap dm++10::r).length<=1000000):
  f117 ((ns.flatMap dm++10::r,()),())=some (((),(r,(true,()))),(ns,())):=by
 have g1:=amk ns [] r h (by simpa using hl) hs
 simp only[f117,g1,Option.bind_some,List.nil_append]
noncomputable abbrev axz:a7:=[(36,Lw),(55,CP),(114,vt),(116,Zh),(117,Zg),(118,Zf)]
theorem abj:aQ O (aY ad axz):=aV ⟨ZW,Ke,Bu,z116,z117,aqr,⟨⟩⟩
abbrev OA:Shape:=⟨[ak 0,au 2 2 0,au 11 11 0,ap 14],[bm 5000130 .need 2 2,bm 5000131 .entry 2 3,ar 2 [ah,ah,.own 5000130,.own 5000131],bm 5000706 .need 11 2,bm 5000707 .entry 11 3,ar 11 [ah,ah,.own 5000706,.own 5000707]],76⟩
abbrev Oe:List aO:=[(.norm,⟨[au 2 2 0,au 11 11 0,ap 73],[bm 5000130 .need 2 2,bm 5000131 .entry 2 3,ar 2 [ah,ah,.own 5000130,.own 5000131],bm 5000706 .need 11 2,bm 5000707 .entry 11 3,ar 11 [ah,ah,.own 5000706,.own 5000707]],76⟩)]
noncomputable def pw(y:OA.F):Option (aA Oe):=
 bif(!(!y.1.2.2.2.1)) then
(f55 (((y.2.2.2.2.2.2.1.1,y.2.2.2.2.2.2.1.2.1,y.2.2.2.2.1,y.2.2.2.2.2.1,()),()),())).bind fun a=>
 bif(!(!a.1.1)) then
(f36 (((y.2.2.2.2.2.2.1.1,y.2.2.2.2.2.2.1.2.1,y.2.2.2.2.1,y.2.2.2.2.2.1,()),()),())).bind fun b=>
 some (((),(),(!(b.1.1==y.1.1)),()),y.2.1,y.2.2.1,(y.2.2.2.1.1,y.2.2.2.1.2.1,(),(),()),y.2.2.2.2.1,y.2.2.2.2.2.1,(y.2.2.2.2.2.2.1.1,y.2.2.2.2.2.2.1.2.1,(),(),()),())
else
 some (((),(),true,()),y.2.1,y.2.2.1,(y.2.2.2.1.1,y.2.2.2.1.2.1,(),(),()),y.2.2.2.2.1,y.2.2.2.2.2.1,(y.2.2.2.2.2.2.1.1,y.2.2.2.2.2.2.1.2.1,(),(),()),())
else
 some (((),(),true,()),y.2.1,y.2.2.1,(y.2.2.2.1.1,y.2.2.2.1.2.1,(),(),()),y.2.2.2.2.1,y.2.2.2.2.2.1,(y.2.2.2.2.2.2.1.1,y.2.2.2.2.2.2.1.2.1,(),(),()),())
theorem agf:aT O (an (codeOf Tryz.f67) 1 16380) (aU OA Oe pw):=b8 abj (by kernel_rfl) af fun y=>by kernel_rfl
abbrev i67:Shape:=⟨[ak 0],[],76⟩
abbrev vG:Shape:=⟨[au 2 2 0,ap 3],[bm 5000130 .need 2 2,bm 5000131 .entry 2 3,ar 2 [ah,ah,.own 5000130,.own 5000131]],76⟩
noncomputable def f67(a:i67.F):Option vG.F:=
 bif(decide ((a.1.1.length:Int)>(4000:Int))) then
 some (((),false,()),([]:List bQ),([]:List az),(([]:J),([]:J),(),(),()),())
else
(f114 ((a.1.1,([10]:J),()),())).bind fun b=>
(f114 ((b.1.2.1,([10]:J),()),())).bind fun c=>
(f116 ((c.1.1,([32]:J),()),())).bind fun d=>
 bif((d.1.1.length:Int) !=(3:Int)) then
 some (((),false,()),([]:List bQ),([]:List az),(([]:J),([]:J),(),(),()),())
else
(aN d.1.1 (1:Int)).bind fun e=>
(aN d.1.1 (2:Int)).bind fun f=>
(f117 ((c.1.2.1,()),())).bind fun g=>
 bif(!g.1.2.2.1) then
 some (((),false,()),([]:List bQ),([]:List az),(([]:J),([]:J),(),(),()),())
else
(f118 ((g.1.2.1,()),())).bind fun h=>
(pw ((a.1.1,(),(),h.1.2.1,()),([]:List bQ),([]:List az),(([]:J),([]:J),(),(),()),g.2.1,h.2.1,(e,f,(),(),()),())).bind fun i=>
 bif i.1.2.2.1 then
 some (((),false,()),([]:List bQ),([]:List az),(([]:J),([]:J),(),(),()),())
else
 some (((),true,()),i.2.2.2.2.1,i.2.2.2.2.2.1,(i.2.2.2.2.2.2.1.1,i.2.2.2.2.2.2.1.2.1,(),(),()),())
noncomputable def aaR:aB:=aG ad Tryz.f67 i67 vG [] f67
theorem aue:ay O 67 aaR:=aJ abj Tryz.func67 (by kernel_rfl) (a6 agf af) (fun y=>by kernel_rfl) fun a=>by kernel_rfl
theorem Dp{aI:Type}(f:aI->J):∀{xs:List aI} {x:aI},x∈xs->(f x).length<=(xs.flatMap f).length:=by
 intro xs;induction xs with
 |nil=>intro x h;cases h
 |cons y bg ih=>
  intro x h;rw[List.flatMap_cons,List.length_append];rcases List.mem_cons.1 h with rfl|h
  ·omega
  ·have:=ih h;omega
theorem agU{e:az}(h:eN e=true):e.path.length<=(eE e).length/\e.text.length<=(eE e).length:=by
 have hc:=Ef (OS h []);rw[List.append_nil] at hc;exact⟨hc.1,hc.2.1⟩
theorem DM(p:aS):(eg p).length<=(cE p).length/\p.name.length+p.bf.length+(p.bj.flatMap dm++10::eM p.bH).length+10<=(eg p).length+10/\(eM p.bH).length<=(eg p).length/\(p.bj.flatMap dm).length<=(eg p).length:=by
 have h1:(cE p).length=(Bz p).length+1+(eg p).length:=by rw[Rj];simp;omega
 have h2:(eg p).length=(lP p).length+1+(nz p).length:=by rw[FK];simp;omega
 have h3:(lP p).length=4+1+(p.name.length+1+p.bf.length):=by unfold lP;simp[k2,pY];omega
 have aE:(nz p).length=(p.bj.flatMap dm).length+1+(eM p.bH).length:=by unfold nz;rw[List.length_append,List.length_cons];omega
 have bi:(p.bj.flatMap dm++10::eM p.bH).length=(nz p).length:=rfl;omega
theorem SQ{p:aS}(hk:ct p=true)(hl:(cE p).length<=4000):jB p:=by
 obtain⟨h1,h2,h3,aE,_,ca⟩:=pr hk;obtain⟨q1,q2,eC,pk⟩:=DM p;refine⟨by show p.name.length<=2097152;omega,by show p.bf.length<=2097152;omega,⟨by show p.bj.length<=2097152;omega,fun n hn=>?_⟩,⟨by show p.bH.length<=2097152;have:=kM ca;omega,fun e he=>?_⟩⟩
 ·have h:=Dp dm hn;have ic:(dm n).length=(dV n).length+6:=by unfold dm;simp
  have hp:n.name.length+n.bf.length<=(dV n).length:=by unfold dV;simp
  exact⟨by show n.name.length<=2097152;omega,by show n.bf.length<=2097152;omega⟩
 ·have h:=Dp eE he;have h:(eE e).length<=(eM p.bH).length:=h;have:=agU (w3 ca e he);exact⟨by show e.path.length<=2097152;omega,by show e.text.length<=2097152;omega⟩
abbrev q6(p:aS):vG.F:=(((),(true,())),(p.bj,(p.bH,((p.name,(p.bf,((),((),())))),()))))
abbrev Mc:vG.F:=(((),(false,())),(([]:List bQ),(([]:List az),((([]:J),(([]:J),((),((),())))),()))))
theorem anq{p q:aS}(h:q6 p=q6 q):p=q:=by
 obtain⟨a,b,c,d⟩:=p;obtain⟨dv,bG,fb,ay4⟩:=q;simp only[q6,Prod.mk.injEq] at h;obtain⟨_,rfl,rfl,⟨rfl,rfl,_⟩,_⟩:=h;rfl
theorem Di{p:aS}(hk:ct p=true)(hl:(cE p).length<=4000):f67 ((cE p,()),())=some (q6 p):=by
 have hb:=SQ hk hl;obtain⟨h1,h2,h3,aE,_,ca⟩:=pr hk;obtain⟨q1,q2,eC,pk⟩:=DM p;have d:decide (((cE p).length:Int)>4000)=false:=decide_eq_false (by omega)
 have c1:=mw 10 (cE p) (by unfold ax;omega)
 have a1:gI 10 (cE p)=eg p:=by unfold gI;rw[aiJ]
 rw[a1] at c1;have c1:f114 ((cE p,(([10]:J),())),())=_:=c1;have c2:=mw 10 (eg p) (by unfold ax;omega)
 have a2:gI 10 (eg p)=nz p:=by unfold gI;rw[Pj hk]
 have a3:gJ 10 (eg p)=lP p:=by unfold gJ;rw[Pj hk]
 rw[a2,a3] at c2;have c2:f114 ((eg p,(([10]:J),())),())=_:=c2;have bJ:(lP p).length<=(eg p).length:=by rw[FK];simp
 have c3:=Ob (lP p) (by omega)
 rw[ad7 hk] at c3;have kA:(((([pY,p.name,p.bf]:List J).length:Nat):Int) !=3)=false:=rfl;have fH:aN [pY,p.name,p.bf] (1:Int)=some p.name:=rfl;have fv:aN [pY,p.name,p.bf] (2:Int)=some p.bf:=rfl;have dk:=acf p.bj (eM p.bH) h3 (by omega) (by omega)
 have dk:f117 ((nz p,()),())=_:=dk;have gv:=acn p.bH ca (by omega) hb.2.2.2
 have c6:=xh (((p.name,(p.bf,(p.bj,(p.bH,())))),()),()) hb;have c6:f55 (((p.name,(p.bf,(p.bj,(p.bH,())))),()),())=some ((ct p,()),()):=c6;have pm:=DB p hb;rw[hk] at c6 pm;simp only[f67,d,cond_false,c1,c2,c3,kA,fH,fv,dk,gv,Option.bind_some,Bool.not_true,Bool.not_false,pw,cond_true,c6,pm,beq_self_eq_true]
theorem acl(s:J)(hs:ax s.length):f67 ((s,()),())=some Mc\/∃p:aS,f67 ((s,()),())=some (q6 p)/\ct p=true/\cE p=s/\s.length<=4000:=by
 by_cases hl:s.length<=4000
 ·have d:decide ((s.length:Int)>4000)=false:=decide_eq_false (by omega)
  have ayV:∀t:J,(gJ 10 t).length<=t.length:=fun t=>by
   unfold gJ;cases h:dJ 10 t with
   |none=>exact Nat.le_refl _
   |some q=>obtain⟨x,y⟩:=q;have:=(kQ h).1;show x.length<=_;rw[this];simp
  have abI:∀t:J,(gI 10 t).length<=t.length:=fun t=>by
   unfold gI;cases h:dJ 10 t with
   |none=>show 0<=_;omega
   |some q=>obtain⟨x,y⟩:=q;have:=(kQ h).1;show y.length<=_;rw[this];simp;omega
  have c1:=mw 10 s hs;have c1:f114 ((s,(([10]:J),())),())=_:=c1;have dF:=abI s;generalize gI 10 s=b at c1 dF;have c2:=mw 10 b (by unfold ax;omega)
  have c2:f114 ((b,(([10]:J),())),())=_:=c2;have fw:=abI b;have wC:=ayV b;generalize gI 10 b=r at c2 fw;generalize gJ 10 b=Z at c2 wC;have c3:=Ob Z (by omega)
  have m3:∀w,w∈bC 32 Z->w.length<=Z.length:=fun w hw=>by
   rw[<-DI 32 Z.length Z (Nat.le_refl _)] at hw;exact DH 32 _ Z w hw
  generalize bC 32 Z=ws at c3 m3;cases kA:(((ws.length:Nat):Int) !=3) with
  |true=>
   refine .inl ?_
   simp only[f67,d,cond_false,c1,c2,c3,kA,cond_true,Option.bind_some]
  |false=>
   obtain⟨U,dX,vs,rfl⟩:∃U dX vs,ws=[U,dX,vs]:=by
    have:ws.length=3:=by simp at kA;omega
    match ws,this with
    |[a,b,c],_=>exact⟨a,b,c,rfl⟩
   have fH:aN [U,dX,vs] (1:Int)=some dX:=rfl;have fv:aN [U,dX,vs] (2:Int)=some vs:=rfl;have aD:=m3 dX (by simp)
   have aF:=m3 vs (by simp)
   obtain⟨fK,ok,ns,dk,cJ,fM,iD⟩:=acg r (by omega)
   obtain⟨au9,t,gv,LX,LW⟩:=aco fK (by omega)
   cases ok with
   |false=>
    refine .inl ?_
    simp only[f67,d,cond_false,c1,c2,c3,kA,fH,fv,dk,cond_true,Option.bind_some,Bool.not_false]
   |true=>
    cases au9 with
    |false=>
     refine .inl ?_
     simp only[f67,d,cond_false,c1,c2,c3,kA,fH,fv,dk,gv,cond_true,Option.bind_some,Bool.not_false,Bool.not_true,pw]
    |true=>
     have hb:jB ⟨dX,vs,ns,t⟩:=⟨by show dX.length<=2097152;omega,by show vs.length<=2097152;omega,⟨by show ns.length<=2097152;omega,fun n hn=>by have:=iD n hn;exact⟨by show n.name.length<=2097152;omega,by show n.bf.length<=2097152;omega⟩⟩,⟨by show t.length<=2097152;omega,fun e he=>by have:=LW e he;exact⟨by show e.path.length<=2097152;omega,by show e.text.length<=2097152;omega⟩⟩⟩
     have c6:=xh (((dX,(vs,(ns,(t,())))),()),()) hb;have c6:f55 (((dX,(vs,(ns,(t,())))),()),())=some ((ct ⟨dX,vs,ns,t⟩,()),()):=c6;have pm:=DB ⟨dX,vs,ns,t⟩ hb;have pm:f36 (((dX,(vs,(ns,(t,())))),()),())=_:=pm;cases hk:ct ⟨dX,vs,ns,t⟩ with
     |false=>
      rw[hk] at c6;refine .inl ?_
      simp only[f67,d,cond_false,c1,c2,c3,kA,fH,fv,dk,gv,cond_true,Option.bind_some,Bool.not_false,Bool.not_true,pw,c6]
     |true=>
      rw[hk] at c6 pm;cases he:cE ⟨dX,vs,ns,t⟩==s with
      |false=>
       refine .inl ?_
       simp only[f67,d,cond_false,c1,c2,c3,kA,fH,fv,dk,gv,cond_true,Option.bind_some,Bool.not_false,Bool.not_true,pw,c6,pm,he]
      |true=>
       refine .inr ⟨⟨dX,vs,ns,t⟩,?_,hk,eq_of_beq he,hl⟩;simp only[f67,d,cond_false,c1,c2,c3,kA,fH,fv,dk,gv,cond_true,Option.bind_some,Bool.not_false,Bool.not_true,pw,c6,pm,he]
 ·have d:decide ((s.length:Int)>4000)=true:=decide_eq_true (by omega)
  refine .inl ?_
  simp only[f67,d,cond_true]
def avp(s:J)(p:aS):Prop:=ct p=true/\cE p=s/\s.length<=4000
def ay6(B:Option aS):vG.F:=match B with|some p=>q6 p|none=>Mc
theorem aeu(s:J)(hs:ax s.length):∃B:Option aS,f67 ((s,()),())=some (ay6 B)/\ny B (avp s):=by
 rcases acl s hs with h|⟨p,h,h1,h2,h3⟩
 ·refine⟨none,h,fun p=>⟨fun hp=>(by cases hp),fun⟨q1,q2,eC⟩=>?_⟩⟩
  subst q2;have:=Di q1 eC;rw[h] at this;simp only[Option.some.injEq,Prod.mk.injEq] at this;exact absurd this.1.2.1 (by decide)
 ·refine⟨some p,h,fun q=>⟨fun hp=>?_,fun⟨q1,q2,eC⟩=>?_⟩⟩
  ·cases hp;exact⟨h1,h2,h3⟩
  ·subst q2;have:=Di q1 eC;rw[h] at this;rw[anq (Option.some.inj this)]
noncomputable abbrev axA:a7:=[(114,vt),(115,BX)]
theorem abk:aQ O (aY ad axA):=aV ⟨Bu,IS,⟨⟩⟩
abbrev SF:Shape:=⟨[ak 2,ak 3,ap 4,ak 6,ap 7,ag 8,ap 9],[],35⟩
abbrev St:List aO:=[(.norm,⟨[ak 2,ak 3,ap 4,ak 6,ag 8,ap 28],[],35⟩)]
noncomputable def uD(y:SF.F):Option (aA St):=
 bif(!(!y.1.2.2.2.2.1)) then
 some ((y.1.1,y.1.2.1,y.1.2.2.1,y.1.2.2.2.1,y.1.2.2.2.2.2.1,(!y.1.2.2.2.2.2.2.1),()),())
else
 some ((y.1.1,y.1.2.1,y.1.2.2.1,y.1.2.2.2.1,y.1.2.2.2.2.2.1,true,()),())
theorem amC:aT O (an (codeOf Tryz.f66) 1 60) (aU SF St uD):=b8 abk (by kernel_rfl) af fun y=>by kernel_rfl
abbrev i66:Shape:=⟨[ak 0],[],35⟩
abbrev _p:Shape:=⟨[ak 2,ak 3,ap 4],[],35⟩
noncomputable def f66(a:i66.F):Option _p.F:=
(f114 ((a.1.1,([10]:J),()),())).bind fun b=>
(f115 ((b.1.1,(b.1.2.1.length:Int),()),())).bind fun c=>
(uD ((([]:J),([]:J),false,b.1.2.1,b.1.2.2.1,c.1.1,c.1.2.1,()),())).bind fun d=>
 bif d.1.2.2.2.2.2.1 then
 some ((([]:J),([]:J),false,()),())
else
(bu d.1.2.2.2.1 (0:Int) d.1.2.2.2.2.1).bind fun e=>
(bu d.1.2.2.2.1 d.1.2.2.2.2.1 (d.1.2.2.2.1.length:Int)).bind fun f=>
 some ((e,f,true,()),())
noncomputable def Lu:aB:=aG ad Tryz.f66 i66 _p [] f66
theorem ZU:ay O 66 Lu:=aJ abk Tryz.func66 (by kernel_rfl) (a6 amC af) (fun y=>by kernel_rfl) fun a=>by kernel_rfl
theorem ajM(t:J)(b:UInt8):c5 (t++[b])=dT (c5 t) b:=by unfold c5;rw[List.foldl_append];rfl
theorem ajK:∀{s:J},s.all cK=true->s≠[]->il s=false->s.length≠1->1<=c5 s:=by
 intro s Z hn hl h1;have key:∀(s:J) (n:Int),s.all cK=true->1<=n->1<=s.foldl dT n:=by
  intro s;induction s with
  |nil=>intro n _ h;exact h
  |cons b s ih=>
   intro n Z hn;simp only[List.all_cons,Bool.and_eq_true] at Z;have hb:=ig Z.1;refine ih _ Z.2 ?_
   unfold dT;omega
 match s,Z,hn,hl,h1 with
 |[],_,hn,_,_=>exact absurd rfl hn
 |[b],_,_,_,h1=>exact absurd rfl h1
 |b::c::r,Z,_,hl,_=>
  have hl:((b.toNat:Int)==48)=false:=hl;have hb:=Z;rw[List.all_cons,Bool.and_eq_true] at hb;have eI:=ig hb.1;have hne:(b.toNat:Int)≠48:=by simpa using hl
  show 1<=(c::r).foldl dT (dT 0 b);exact key _ _ hb.2 (by unfold dT;omega)
theorem afj:∀(k:Nat) (s:J),s.length=k->s.all cK=true->s≠[]->il s=false->∃n:Nat,c5 s=(n:Int)/\Lib.decDigits n=s:=by
 intro k;induction k with
 |zero=>intro s h _ hn _;exact absurd (List.length_eq_zero_iff.1 h) hn
 |succ k ih=>
  intro s h Z hn hl;obtain⟨t,b,rfl⟩:∃t b,s=t++[b]:=⟨s.dropLast,s.getLast hn,(List.dropLast_concat_getLast hn).symm⟩;have hk:t.length=k:=by simpa using h
  rw[List.all_append,Bool.and_eq_true] at Z;have hb1:cK b=true:=by have:=Z.2;simpa using this
  have eI:=ig hb1;cases t with
  |nil=>
   refine⟨b.toNat-48,?_,?_⟩
   ·show dT 0 b=_;unfold dT;omega
   ·rw[Lib.decDigits,dif_pos (by omega)]
    show [_]=[b];congr 1
    apply UInt8.toNat_inj.1;rw[UInt8.toNat_ofNat'];omega
  |cons c r=>
   have hlt:il (c::r)=false:=by
    cases r with
    |nil=>rfl
    |cons d r=>exact hl
   obtain⟨n,h1,h2⟩:=ih (c::r) hk Z.1 (by simp) hlt
   have hp:1<=n:=by
    cases r with
    |nil=>
     have pd:((c.toNat:Int)==48)=false:=hl;have pd:(c.toNat:Int)≠48:=by simpa using pd
     have hc:=ig (by have:=Z.1;simpa using this:cK c=true)
     have:dT 0 c=(n:Int):=h1;unfold dT at this;omega
    |cons d r=>
     have:=ajK Z.1 (by simp) hlt (by simp)
     omega
   refine⟨n*10+(b.toNat-48),?_,?_⟩
   ·rw[ajM,h1];unfold dT;omega
   ·rw[Lib.decDigits,dif_neg (by omega),show(n*10+(b.toNat-48))/10=n by omega,h2,show(n*10+(b.toNat-48))%10=b.toNat-48 by omega]
    congr 2
    apply UInt8.toNat_inj.1;rw[UInt8.toNat_ofNat'];omega
theorem OV{m:Int}{s:J}(h:e0 m s=true):∃n:Nat,c5 s=(n:Int)/\s=Lib.itoa (n:Int)/\(n:Int)<=m:=by
 have h0:=h;unfold e0 at h;simp only[Bool.and_eq_true,decide_eq_true_eq,Bool.not_eq_true'] at h;obtain⟨⟨⟨⟨h1,h2⟩,h3⟩,_⟩,bi⟩:=h;obtain⟨n,e1,e2⟩:=afj s.length s rfl h1 (by simpa using h2) h3
 exact⟨n,e1,by rw[tY,e2],by omega⟩
def iO(s:J):Option (J×J):=match dJ 10 s with
 |some (dE,r)=>bif e0 (r.length:Int) dE then some (r.take (c5 dE).toNat,r.drop (c5 dE).toNat) else none
 |none=>none
theorem Dr(s:J)(hs:ax s.length):f66 ((s,()),())=some ((((iO s).getD ([],[])).1,(((iO s).getD ([],[])).2,((iO s).isSome,()))),()):=by
 have c1:=mw 10 s hs;have c1:f114 ((s,(([10]:J),())),())=_:=c1;cases aC:dJ 10 s with
 |none=>
  have hz:iO s=none:=by unfold iO;rw[aC]
  have dH:gJ 10 s=s:=by unfold gJ;rw[aC]
  have n1:=xg s ((gI 10 s).length:Int) hs;rw[aC,dH] at c1;simp only[f66,c1,Option.bind_some,n1,uD,Option.isSome_none,Bool.not_false,Bool.not_true,cond_false,cond_true,hz];rfl
 |some q=>
  obtain⟨dE,r⟩:=q;have hl:=(kQ aC).1;have hl:s.length=dE.length+1+r.length:=by rw[hl];simp;omega
  have dH:gJ 10 s=dE:=by unfold gJ;rw[aC]
  have hB:gI 10 s=r:=by unfold gI;rw[aC]
  rw[aC,dH,hB] at c1;have n1:=xg dE (r.length:Int) (by unfold ax at hs ⊢;omega)
  have hz:iO s=bif e0 (r.length:Int) dE then some (r.take (c5 dE).toNat,r.drop (c5 dE).toNat) else none:=by unfold iO;rw[aC]
  cases hg:e0 (r.length:Int) dE with
  |false=>
   rw[hg] at hz n1;simp only[f66,c1,Option.bind_some,n1,uD,Option.isSome_some,Bool.not_false,Bool.not_true,cond_false,cond_true,hz];rfl
  |true=>
   rw[hg] at hz n1;obtain⟨n,h1,_,h3⟩:=OV hg;rw[h1] at hz n1;have s1:bu r 0 (n:Int)=some (r.take n):=ii (by omega)
   have s2:bu r (n:Int) ((r.length:Nat):Int)=some (r.drop n):=iI (by omega)
   simp only[f66,c1,Option.bind_some,n1,uD,Option.isSome_some,Bool.not_false,Bool.not_true,cond_false,cond_true,s1,s2,hz];rfl
theorem DL{s x y:J}(h:iO s=some (x,y)):s=dU x++y/\y.length<s.length:=by
 unfold iO at h;cases aC:dJ 10 s with
 |none=>rw[aC] at h;cases h
 |some q=>
  obtain⟨dE,r⟩:=q;rw[aC] at h;have hs:=(kQ aC).1;have h:(bif e0 (r.length:Int) dE then some (r.take (c5 dE).toNat,r.drop (c5 dE).toNat) else none)=some (x,y):=h
  cases hg:e0 (r.length:Int) dE with
  |false=>rw[hg] at h;cases h
  |true=>
   rw[hg] at h;obtain⟨n,h1,h2,h3⟩:=OV hg;simp only[cond_true,Option.some.injEq,Prod.mk.injEq,h1,Int.toNat_natCast] at h;obtain⟨rfl,rfl⟩:=h;have hlen:(r.take n).length=n:=by simp;omega
   refine⟨?_,?_⟩
   ·unfold dU;rw[hlen,<-h2,hs];simp
   ·rw[hs];simp;omega
theorem Ee(x y:J)(hH:x.length<1000000000):iO (dU x++y)=some (x,y):=by
 unfold iO;rw[af2];obtain⟨g1,g2⟩:=Fc (n:=x.length) (m:=((x++y).length:Int)) (by simp;omega) hH
 show(bif e0 ((x++y).length:Int) (Lib.itoa (x.length:Int)) then _ else _)=_
 rw[g1,g2];simp
noncomputable abbrev axP:a7:=[(43,CR),(66,Lu),(67,aaR)]
theorem LH:aQ O (aY ad axP):=aV ⟨Kg,ZU,aue,⟨⟩⟩
abbrev PV:Shape:=⟨[au 2 2 0,a_ 4 3000256,ak 6,ak 7,ap 8],[bm 5000128 .pack 2 0,ar 2 [.own 5000128],a8 3000256 .pack 4 0],48⟩
abbrev PD:List aO:=[(.norm,⟨[au 2 2 0,a_ 4 3000256,ak 6,ak 7,ap 26],[bm 5000128 .pack 2 0,ar 2 [.own 5000128],a8 3000256 .pack 4 0],48⟩)]
noncomputable def pG(y:PV.F):Option (aA PD):=
 bif(!(!y.1.2.2.2.2.1)) then
 some (((),(),y.1.2.2.1,y.1.2.2.2.1,((y.2.2.2.1.length:Int)==(5:Int)),()),y.2.1,((),()),y.2.2.2.1,())
else
 some (((),(),y.1.2.2.1,y.1.2.2.2.1,true,()),y.2.1,((),()),y.2.2.2.1,())
theorem aih:aT O (an (cN (an (codeOf Tryz.f35) 1 60)) 120 3860) (aU PV PD pG):=b8 LH (by kernel_rfl) af fun y=>by kernel_rfl
abbrev Al:Shape:=⟨[au 2 2 0,a_ 4 3000256,ak 5],[bm 5000128 .pack 2 0,ar 2 [.own 5000128],a8 3000256 .pack 4 0],48⟩
abbrev HS:List aO:=[(.ret,⟨[au 2 2 0,ap 3],[bm 5000128 .pack 2 0,ar 2 [.own 5000128]],48⟩),(.exit 0,⟨[au 2 2 0,a_ 4 3000256],[bm 5000128 .pack 2 0,ar 2 [.own 5000128],a8 3000256 .pack 4 0],48⟩)]
noncomputable def oG(y:Al.F):bD Al HS:=
 bif(!(y.1.2.2.1==([]:J))) then
(f66 ((y.1.2.2.1,()),())).bind fun a=>
(pG (((),(),a.1.1,a.1.2.1,a.1.2.2.1,()),y.2.1,((),()),y.2.2.2.1,())).bind fun b=>
 bif b.1.2.2.2.2.1 then
 some (.inr (.inl (((),false,()),([]:List aS),((),()),())))
else
(f67 ((b.1.2.2.1,()),())).bind fun c=>
 bif(!c.1.2.1) then
 some (.inr (.inl (((),false,()),([]:List aS),((),()),())))
else
(cj 80 b.2.2.2.1 ([(aS.mk c.2.2.2.1.1 c.2.2.2.1.2.1 c.2.1 c.2.2.1)]:List aS)).bind fun d=>
 some (.inl (((),(),b.1.2.2.2.1,()),b.2.1,((),()),d,()))
else
 some (.inr (.inr (((),(),()),y.2.1,((),()),y.2.2.2.1,())))
noncomputable def uA:Al.F->Option (aA HS):=bo oG
theorem amL:aT O (an (codeOf Tryz.f35) 1 60) (aU Al HS uA):=bE LH (by kernel_rfl) (a6 aih af) fun y=>by kernel_rfl
abbrev i35:Shape:=⟨[ak 0],[],48⟩
abbrev vH:Shape:=⟨[au 2 2 0,ap 3],[bm 5000128 .pack 2 0,ar 2 [.own 5000128]],48⟩
noncomputable def f35(a:i35.F):Option vH.F:=
(uA (((),(),a.1.1,()),([]:List aS),((),()),([]:List aS),())).bind fun b=>
(match b with
|.inl c=>
 some (((),c.1.2.1,()),c.2.1,((),()),())
|.inr d=>
(f43 (((d.2.2.2.1,()),()),())).bind fun e=>
 bif(!e.1.1) then
 some (((),false,()),([]:List aS),((),()),())
else
 some (((),true,()),d.2.2.2.1,((),()),()))
noncomputable def Lx:aB:=aG ad Tryz.f35 i35 vH [] f35
theorem ZX:ay O 35 Lx:=aJ LH Tryz.func35 (by kernel_rfl) (a6 amL af) (fun y=>by kernel_rfl) fun a=>by kernel_rfl
noncomputable abbrev ax2:a7:=[(35,Lx)]
theorem ayo:aQ O (aY ad ax2):=aV ⟨ZX,⟨⟩⟩
abbrev i14:Shape:=⟨[b5 0 [ah,ah]],[],17⟩
abbrev Ck:Shape:=⟨[ap 2],[],17⟩
noncomputable def f14(a:i14.F):Option Ck.F:=
(f35 ((a.1.1.1,()),())).bind fun b=>
 bif b.1.2.1 then
 some (((a.1.1.2.1==([]:J)),()),())
else
 some ((false,()),())
noncomputable def tr:aB:=aG ad Tryz.f14 i14 Ck [] f14
theorem Kh:ay O 14 tr:=aJ ayo Tryz.func14 (by kernel_rfl) af (fun y=>by kernel_rfl) fun a=>by kernel_rfl
abbrev BI(ps:List aS):Prop:=∀p,p∈ps->ct p=true/\(cE p).length<=4000
def qu(s:J)(ps:List aS):Prop:=fP ps=true/\dZ ps=s/\BI ps
abbrev Mb(ps:List aS):vH.F:=(((),(true,())),(ps,(((),()),())))
abbrev Ln:vH.F:=(((),(false,())),(([]:List aS),(((),()),())))
def aw8(B:Option (List aS)):vH.F:=match B with|some ps=>Mb ps|none=>Ln
theorem G'{ps:List aS}(h:BI ps)(hl:ps.length<=6):fj ps/\j7 ps:=by
 refine⟨⟨by show ps.length<=2097152;omega,fun p hp=>SQ (h p hp).1 (h p hp).2⟩,fun p hp=>?_⟩
 obtain⟨hk,aC⟩:=h p hp;obtain⟨q1,q2,eC,pk⟩:=DM p;refine⟨by omega,fun n hn=>?_⟩
 have h:=Dp dm hn;have ic:(dm n).length=(dV n).length+6:=by unfold dm;simp
 have hp:n.name.length+n.bf.length<=(dV n).length:=by unfold dV;simp
 omega
theorem xA(p:aS)(ps:List aS):dZ (p::ps)=dU (cE p)++dZ ps:=by unfold dZ;rw[List.flatMap_cons]
theorem amn:∀(m:Nat) (s:J) (ps:List aS),s.length<=m->m<=1000000000->ps.length<=5->
  uA (((),((),(s,()))),(([]:List aS),(((),()),(ps,()))))=some (.inl Ln)\/
  ∃qs:List aS,uA (((),((),(s,()))),(([]:List aS),(((),()),(ps,()))))=some (.inr (((),((),())),(([]:List aS),(((),()),(ps++qs,())))))/\dZ qs=s/\BI qs/\(ps++qs).length<=5:=by
 intro m;induction m with
 |zero=>
  intro s ps hs _ hl;have:s=[]:=List.length_eq_zero_iff.1 (by omega)
  subst this;exact .inr ⟨[],by rw[List.append_nil];exact de rfl,rfl,fun p hp=>(by cases hp),by simpa using hl⟩
 |succ m ih=>
  intro s ps hs hm hl;cases s with
  |nil=>exact .inr ⟨[],by rw[List.append_nil];exact de rfl,rfl,fun p hp=>(by cases hp),by simpa using hl⟩
  |cons b iB=>
   have hne:((b::iB)==([]:J))=false:=rfl;generalize eD:b::iB=s at hs hne;have z:=Dr s (by unfold ax;omega)
   cases hz:iO s with
   |none=>
    rw[hz] at z;refine .inl (de ?_);simp only[oG,hne,Bool.not_false,cond_true,z,Option.bind_some,Option.isSome_none,pG,Bool.not_true,cond_false]
   |some q=>
    obtain⟨x,y⟩:=q;obtain⟨aD,aF⟩:=DL hz;rw[hz] at z;have z:f66 ((s,()),())=some ((x,(y,(true,()))),()):=z;by_cases bi:ps.length=5
    ·refine .inl (de ?_);have d:(((ps.length:Nat):Int)==5)=true:=by rw[beq_iff_eq];omega
     simp only[oG,hne,Bool.not_false,cond_true,z,Option.bind_some,pG,Bool.not_true,cond_false,d]
    ·have d:(((ps.length:Nat):Int)==5)=false:=by rw[beq_eq_false_iff_ne];omega
     have hx:x.length<=s.length:=by rw[aD];unfold dU;simp;omega
     obtain⟨B,g1,g2⟩:=aeu x (by unfold ax;omega)
     cases B with
     |none=>
      have g1:f67 ((x,()),())=some Mc:=g1;refine .inl (de ?_);simp only[oG,hne,Bool.not_false,cond_true,z,Option.bind_some,pG,Bool.not_true,cond_false,d,g1]
     |some p=>
      have g1:f67 ((x,()),())=some (q6 p):=g1;obtain⟨ja,jC,p3⟩:=(g2 p).1 rfl;have iY:cj 80 ps ([(aS.mk p.name p.bf p.bj p.bH)]:List aS)=some (ps++[p]):=dt (by decide) (by unfold ax;simp;omega)
      have st:oG (((),((),(s,()))),(([]:List aS),(((),()),(ps,()))))=some (.inl (((),((),(y,()))),(([]:List aS),(((),()),(ps++[p],()))))):=by
       simp only[oG,hne,Bool.not_false,cond_true,z,Option.bind_some,pG,Bool.not_true,cond_false,d,g1,iY]
      rcases ih y (ps++[p]) (by omega) (by omega) (by simp;omega) with e|⟨qs,e1,e2,bv,dq⟩
      ·exact .inl ((fc st).trans e)
      ·rw[List.append_assoc] at e1 dq;refine .inr ⟨p::qs,(fc st).trans e1,by rw[xA,e2,jC,<-aD],fun r hr=>?_,dq⟩
       rcases List.mem_cons.1 hr with rfl|hr
       ·exact⟨ja,by rw[jC];exact p3⟩
       ·exact bv r hr
theorem amm:∀(qs ps:List aS),BI qs->ps.length+qs.length<=5->
  uA (((),((),(dZ qs,()))),(([]:List aS),(((),()),(ps,()))))=some (.inr (((),((),())),(([]:List aS),(((),()),(ps++qs,()))))):=by
 intro qs;induction qs with
 |nil=>intro ps _ _;rw[List.append_nil];exact de rfl
 |cons p qs ih=>
  intro ps h hl;obtain⟨h1,h2⟩:=h p List.mem_cons_self;have hz:=Ee (cE p) (dZ qs) (by omega)
  rw[<-xA] at hz;have hlen:(dZ (p::qs)).length<=30000:=by
   have:=rA (f:=fun p=>dU (cE p)) (xs:=p::qs) (n:=5000) fun q aC=>by
    have:=(h q aC).2;have:=om (cE q).length (by omega)
    show(dU (cE q)).length<=5000;unfold dU;simp;omega
   have e:(dZ (p::qs)).length=((p::qs).flatMap fun p=>dU (cE p)).length:=rfl
   simp only[List.length_cons] at hl this;have ca:(qs.length+1)*5000<=6*5000:=Nat.mul_le_mul_right _ (by omega)
   omega
  have z:=Dr (dZ (p::qs)) (by unfold ax;omega)
  rw[hz] at z;have z:f66 ((dZ (p::qs),()),())=some ((cE p,(dZ qs,(true,()))),()):=z;have g1:=Di h1 h2;have hne:(dZ (p::qs)==([]:J))=false:=by
   have:=(DL hz).2;cases hx:dZ (p::qs) with
   |nil=>rw[hx] at this;simp at this
   |cons b r=>rfl
  have d:(((ps.length:Nat):Int)==5)=false:=by rw[beq_eq_false_iff_ne];simp at hl;omega
  have iY:cj 80 ps ([(aS.mk p.name p.bf p.bj p.bH)]:List aS)=some (ps++[p]):=dt (by decide) (by unfold ax;simp;simp at hl;omega)
  have st:oG (((),((),(dZ (p::qs),()))),(([]:List aS),(((),()),(ps,()))))=some (.inl (((),((),(dZ qs,()))),(([]:List aS),(((),()),(ps++[p],()))))):=by
   simp only[oG,hne,Bool.not_false,cond_true,z,Option.bind_some,pG,Bool.not_true,cond_false,d,g1,iY]
  have:=ih (ps++[p]) (fun r hr=>h r (List.mem_cons_of_mem _ hr)) (by simp at hl ⊢;omega)
  rw[List.append_assoc] at this;exact(fc st).trans this
theorem Nv(s:J)(hs:s.length<=1000000000):∃B:Option (List aS),f35 ((s,()),())=some (aw8 B)/\ny B (qu s):=by
 have put:∀ps:List aS,qu s ps->f35 ((s,()),())=some (Mb ps):=by
  intro ps ⟨h1,h2,h3⟩;subst h2;have hl:ps.length<=5:=(og h1).2;obtain⟨hb,hv⟩:=G' h3 (by omega)
  have g:=amm ps [] h3 (by simpa using hl)
  have e:=D0 (((ps,()),()),()) hb hv;have e:f43 (((ps,()),()),())=some ((fP ps,()),()):=e;rw[h1] at e;simp only[f35,g,List.nil_append,Option.bind_some,e,Bool.not_true,cond_false]
 have any:f35 ((s,()),())=some Ln\/∃ps,f35 ((s,()),())=some (Mb ps)/\qu s ps:=by
  rcases amn s.length s [] (Nat.le_refl _) hs (by decide) with g|⟨qs,g,h1,h2,h3⟩
  ·refine .inl ?_
   simp only[f35,g,Option.bind_some]
  ·rw[List.nil_append] at g h3;obtain⟨hb,hv⟩:=G' h2 (by omega)
   have e:=D0 (((qs,()),()),()) hb hv;have e:f43 (((qs,()),()),())=some ((fP qs,()),()):=e;cases hr:fP qs with
   |false=>
    rw[hr] at e;refine .inl ?_
    simp only[f35,g,Option.bind_some,e,Bool.not_false,cond_true]
   |true=>
    rw[hr] at e;refine .inr ⟨qs,?_,hr,h1,h2⟩;simp only[f35,g,Option.bind_some,e,Bool.not_true,cond_false]
 rcases any with h|⟨ps,h,hr⟩
 ·refine⟨none,h,fun p=>⟨fun hp=>(by cases hp),fun hp=>?_⟩⟩
  have:=put p hp;rw[h] at this;simp only[Option.some.injEq,Prod.mk.injEq] at this;exact absurd this.1.2.1 (by decide)
 ·refine⟨some ps,h,fun q=>⟨fun hp=>by cases hp;exact hr,fun hp=>?_⟩⟩
  have:=put q hp;rw[h] at this;simp only[Option.some.injEq,Prod.mk.injEq] at this;rw[this.2.1]
theorem afJ(s t:J)(hs:s.length<=1000000000):∃B:Option (List aS),f14 (((s,(t,())),()),())=some ((B.isSome&&t==[],()),())/\ny B (qu s):=by
 obtain⟨B,h1,h2⟩:=Nv s hs;refine⟨B,?_,h2⟩;simp only[f14,h1,Option.bind_some];cases B<;>rfl
noncomputable abbrev asy:a7:=[(192,JP),(218,JK),(225,JI)]
theorem B3:aQ O (aY ad asy):=aV ⟨Vi,z218,Ve,⟨⟩⟩
abbrev yP:Shape:=⟨[ak 0,au 2 2 0,ap 3,ag 4],[ar 2 [ah,aX,ah]],75⟩
abbrev F':List aO:=[(.exit 0,⟨[ak 0,au 2 2 0,ap 3,ag 4],[ar 2 [ah,aX,ah]],75⟩)]
noncomputable def alr(y:yP.F):bD yP F':=
 bif(decide (y.1.2.2.2.1<(y.1.1.length:Int))) then
(aN y.1.1 y.1.2.2.2.1).bind fun a=>
 bif((a.toNat:Int) !=(61:Int)) then
(aN y.1.1 y.1.2.2.2.1).bind fun b=>
 bif((b.toNat:Int) !=(62:Int)) then
(aN y.1.1 y.1.2.2.2.1).bind fun c=>
 bif((c.toNat:Int) !=(60:Int)) then
 some (.inl ((y.1.1,(),y.1.2.2.1,(IntKind.i64.wrap (y.1.2.2.2.1+(1:Int))),()),(y.2.1.1,y.2.1.2.1,y.2.1.2.2.1,()),()))
else
 some (.inr ((y.1.1,(),y.1.2.2.1,y.1.2.2.2.1,()),(y.2.1.1,y.2.1.2.1,y.2.1.2.2.1,()),()))
else
 some (.inr ((y.1.1,(),y.1.2.2.1,y.1.2.2.2.1,()),(y.2.1.1,y.2.1.2.1,y.2.1.2.2.1,()),()))
else
 some (.inr ((y.1.1,(),y.1.2.2.1,y.1.2.2.2.1,()),(y.2.1.1,y.2.1.2.1,y.2.1.2.2.1,()),()))
else
 some (.inr ((y.1.1,(),y.1.2.2.1,y.1.2.2.2.1,()),(y.2.1.1,y.2.1.2.1,y.2.1.2.2.1,()),()))
noncomputable def RE:yP.F->Option (aA F'):=bo alr
theorem akz:aT O (an (codeOf Tryz.f179) 1 28) (aU yP F' RE):=bE B3 (by kernel_rfl) af fun y=>by kernel_rfl
abbrev NF:Shape:=⟨[ak 0,au 2 2 0,ap 3,au 5 5 0,ak 6,ag 7,ak 8],[ar 2 [ah,aX,ah],ar 5 [ah,aX,ah]],75⟩
abbrev Nz:List aO:=[(.norm,⟨[ak 0,au 2 2 0,ap 3,au 5 5 0,ak 6,ag 7,ak 8,ap 58],[ar 2 [ah,aX,ah],ar 5 [ah,aX,ah]],75⟩)]
noncomputable def NR(y:NF.F):Option (aA Nz):=
 bif(decide ((y.1.2.2.2.2.1.length:Int)>=(y.1.2.2.2.2.2.2.1.length:Int))) then
(bu y.1.2.2.2.2.1 (0:Int) (y.1.2.2.2.2.2.2.1.length:Int)).bind fun a=>
 some ((y.1.1,(),y.1.2.2.1,(),y.1.2.2.2.2.1,y.1.2.2.2.2.2.1,y.1.2.2.2.2.2.2.1,(a==y.1.2.2.2.2.2.2.1),()),(y.2.1.1,y.2.1.2.1,y.2.1.2.2.1,()),(y.2.2.1.1,y.2.2.1.2.1,y.2.2.1.2.2.1,()),())
else
 some ((y.1.1,(),y.1.2.2.1,(),y.1.2.2.2.2.1,y.1.2.2.2.2.2.1,y.1.2.2.2.2.2.2.1,false,()),(y.2.1.1,y.2.1.2.1,y.2.1.2.2.1,()),(y.2.2.1.1,y.2.2.1.2.1,y.2.2.1.2.2.1,()),())
theorem aeN:aT O (an (cN (an (codeOf Tryz.f179) 1 506)) 1012 32402) (aU NF Nz NR):=b8 B3 (by kernel_rfl) af fun y=>by kernel_rfl
abbrev x2:Shape:=⟨[ak 0,au 2 2 0,ap 3,au 5 5 0,ak 6,ag 7],[ar 2 [ah,aX,ah],ar 5 [ah,aX,ah]],75⟩
abbrev E0:List aO:=[(.exit 2,⟨[ak 0,au 2 2 0,ap 3,au 5 5 0],[ar 2 [ah,aX,ah],ar 5 [ah,aX,ah]],75⟩)]
noncomputable def ajc(y:x2.F):bD x2 E0:=
 bif(decide (y.1.2.2.2.2.2.1<=(3:Int))) then
(f225 ((y.1.2.2.2.2.2.1,()),())).bind fun a=>
(NR ((y.1.1,(),y.1.2.2.1,(),y.1.2.2.2.2.1,y.1.2.2.2.2.2.1,a.1.1,()),(y.2.1.1,y.2.1.2.1,y.2.1.2.2.1,()),(y.2.2.1.1,y.2.2.1.2.1,y.2.2.1.2.2.1,()),())).bind fun b=>
 bif b.1.2.2.2.2.2.2.2.1 then
(bu b.1.2.2.2.2.1 (b.1.2.2.2.2.2.2.1.length:Int) (b.1.2.2.2.2.1.length:Int)).bind fun c=>
 some (.inl ((b.1.1,(),b.1.2.2.1,(),b.1.2.2.2.2.1,(IntKind.i64.wrap (b.1.2.2.2.2.2.1+(1:Int))),()),(b.2.1.1,b.2.1.2.1,b.2.1.2.2.1,()),(b.2.2.1.1,b.1.2.2.2.2.2.1,c,()),()))
else
 some (.inl ((b.1.1,(),b.1.2.2.1,(),b.1.2.2.2.2.1,(IntKind.i64.wrap (b.1.2.2.2.2.2.1+(1:Int))),()),(b.2.1.1,b.2.1.2.1,b.2.1.2.2.1,()),(b.2.2.1.1,b.2.2.1.2.1,b.2.2.1.2.2.1,()),()))
else
 some (.inr ((y.1.1,(),y.1.2.2.1,(),()),(y.2.1.1,y.2.1.2.1,y.2.1.2.2.1,()),(y.2.2.1.1,y.2.2.1.2.1,y.2.2.1.2.2.1,()),()))
noncomputable def Qd:x2.F->Option (aA E0):=bo ajc
theorem aiz:aT O (an (codeOf Tryz.f179) 1 506) (aU x2 E0 Qd):=bE B3 (by kernel_rfl) (a6 aeN af) fun y=>by kernel_rfl
abbrev i179:Shape:=⟨[ak 0],[],75⟩
abbrev Ws:Shape:=⟨[au 2 2 0,ap 3],[ar 2 [ah,aX,ah]],75⟩
noncomputable def f179(a:i179.F):Option Ws.F:=
(RE ((a.1.1,(),false,(0:Int),()),(([]:J),(0:Int),([]:J),()),())).bind fun b=>
(bu b.1.1 (0:Int) b.1.2.2.2.1).bind fun c=>
(bu b.1.1 b.1.2.2.2.1 (b.1.1.length:Int)).bind fun d=>
(Qd ((b.1.1,(),b.1.2.2.1,(),d,(1:Int),()),(b.2.1.1,b.2.1.2.1,b.2.1.2.2.1,()),(c,(0:Int),([]:J),()),())).bind fun e=>
(f192 (((e.2.2.1.1,e.2.2.1.2.1,e.2.2.1.2.2.1,()),()),())).bind fun f=>
 bif f.1.1 then
(f218 (((e.2.2.1.1,e.2.2.1.2.1,e.2.2.1.2.2.1,()),()),())).bind fun g=>
 some (((),(g.1.1==e.1.1),()),(e.2.2.1.1,e.2.2.1.2.1,e.2.2.1.2.2.1,()),())
else
 some (((),false,()),(e.2.2.1.1,e.2.2.1.2.1,e.2.2.1.2.2.1,()),())
noncomputable def YG:aB:=aG ad Tryz.f179 i179 Ws [] f179
theorem ap5:ay O 179 YG:=aJ B3 Tryz.func179 (by kernel_rfl) (a6 akz (a6 aiz af)) (fun y=>by kernel_rfl) fun a=>by kernel_rfl
noncomputable abbrev asx:a7:=[(73,ph),(74,CN),(75,n4)]
theorem vy:aQ O (aY ad asx):=aV ⟨qq,Kd,z75,⟨⟩⟩
abbrev P4:Shape:=⟨[au 2 2 0,ak 3,ap 4,a_ 5 3000320,a_ 6 3000384],[ar 2 [ah,aX,aX,ah],a8 3000320 .str 5 0,a8 3000384 .str 6 0],110⟩
abbrev PM:List aO:=[(.norm,⟨[au 2 2 0,ak 3,ap 4,a_ 5 3000320,a_ 6 3000384,ap 18],[ar 2 [ah,aX,aX,ah],a8 3000320 .str 5 0,a8 3000384 .str 6 0],110⟩)]
noncomputable def Qt(y:P4.F):Option (aA PM):=
(bk y.2.2.2.1.length (0:Int)).bind fun a=>
(y.2.2.2.1[a]?).bind fun b=>
 bif(b==([100,105,114]:J)) then
 some (((),y.1.2.1,y.1.2.2.1,(),(),((y.2.2.2.1.length:Int)==(3:Int)),()),(y.2.1.1,y.2.1.2.1,y.2.1.2.2.1,y.2.1.2.2.2.1,()),y.2.2.1,y.2.2.2.1,())
else
 some (((),y.1.2.1,y.1.2.2.1,(),(),false,()),(y.2.1.1,y.2.1.2.1,y.2.1.2.2.1,y.2.1.2.2.2.1,()),y.2.2.1,y.2.2.2.1,())
theorem aiy:aT O (an (codeOf Tryz.f180) 1 248) (aU P4 PM Qt):=b8 vy (by kernel_rfl) af fun y=>by kernel_rfl
abbrev P3:Shape:=⟨[au 2 2 0,ak 3,ap 4,a_ 5 3000320,a_ 6 3000384],[ar 2 [ah,aX,aX,ah],a8 3000320 .str 5 0,a8 3000384 .str 6 0],110⟩
abbrev PL:List aO:=[(.norm,⟨[au 2 2 0,ak 3,ap 4,a_ 5 3000320,a_ 6 3000384,ap 39],[ar 2 [ah,aX,aX,ah],a8 3000320 .str 5 0,a8 3000384 .str 6 0],110⟩)]
noncomputable def Qs(y:P3.F):Option (aA PL):=
(bk y.2.2.2.1.length (0:Int)).bind fun a=>
(y.2.2.2.1[a]?).bind fun b=>
 bif(b==([108,105,110,107]:J)) then
 some (((),y.1.2.1,y.1.2.2.1,(),(),((y.2.2.2.1.length:Int)==(3:Int)),()),(y.2.1.1,y.2.1.2.1,y.2.1.2.2.1,y.2.1.2.2.2.1,()),y.2.2.1,y.2.2.2.1,())
else
 some (((),y.1.2.1,y.1.2.2.1,(),(),false,()),(y.2.1.1,y.2.1.2.1,y.2.1.2.2.1,y.2.1.2.2.2.1,()),y.2.2.1,y.2.2.2.1,())
theorem aix:aT O (an (codeOf Tryz.f180) 1 998) (aU P3 PL Qs):=b8 vy (by kernel_rfl) af fun y=>by kernel_rfl
abbrev OF:Shape:=⟨[au 2 2 0,ak 3,ap 4,a_ 5 3000320,a_ 6 3000384],[ar 2 [ah,aX,aX,ah],a8 3000320 .str 5 0,a8 3000384 .str 6 0],110⟩
abbrev Oj:List aO:=[(.norm,⟨[au 2 2 0,ak 3,ap 4,a_ 5 3000320,a_ 6 3000384,ap 59],[ar 2 [ah,aX,aX,ah],a8 3000320 .str 5 0,a8 3000384 .str 6 0],110⟩)]
noncomputable def O_(y:OF.F):Option (aA Oj):=
(bk y.2.2.2.1.length (0:Int)).bind fun a=>
(y.2.2.2.1[a]?).bind fun b=>
 bif(b==([102,105,108,101]:J)) then
 some (((),y.1.2.1,y.1.2.2.1,(),(),((y.2.2.2.1.length:Int)==(4:Int)),()),(y.2.1.1,y.2.1.2.1,y.2.1.2.2.1,y.2.1.2.2.2.1,()),y.2.2.1,y.2.2.2.1,())
else
 some (((),y.1.2.1,y.1.2.2.1,(),(),false,()),(y.2.1.1,y.2.1.2.1,y.2.1.2.2.1,y.2.1.2.2.2.1,()),y.2.2.1,y.2.2.2.1,())
theorem ago:aT O (an (codeOf Tryz.f180) 1 3998) (aU OF Oj O_):=b8 vy (by kernel_rfl) af fun y=>by kernel_rfl
abbrev NE:Shape:=⟨[au 2 2 0,ak 3,ap 4,a_ 5 3000320,a_ 6 3000384,ag 7],[ar 2 [ah,aX,aX,ah],a8 3000320 .str 5 0,a8 3000384 .str 6 0],110⟩
abbrev Ny:List aO:=[(.norm,⟨[au 2 2 0,ak 3,ap 4,a_ 5 3000320,a_ 6 3000384,ag 7,ap 88],[ar 2 [ah,aX,aX,ah],a8 3000320 .str 5 0,a8 3000384 .str 6 0],110⟩)]
noncomputable def NQ(y:NE.F):Option (aA Ny):=
(bk y.2.2.1.length (1:Int)).bind fun a=>
(y.2.2.1[a]?).bind fun b=>
(f75 ((y.1.2.2.2.2.2.1,(0:Int),(IntKind.i64.wrap ((b.length:Int)-(1:Int))),()),())).bind fun c=>
 bif(!(!c.1.1)) then
(bk y.2.2.1.length (1:Int)).bind fun d=>
(y.2.2.1[d]?).bind fun e=>
(aN e y.1.2.2.2.2.2.1).bind fun f=>
 some (((),y.1.2.1,y.1.2.2.1,(),(),y.1.2.2.2.2.2.1,((f.toNat:Int) !=(10:Int)),()),(y.2.1.1,y.2.1.2.1,y.2.1.2.2.1,y.2.1.2.2.2.1,()),y.2.2.1,y.2.2.2.1,())
else
 some (((),y.1.2.1,y.1.2.2.1,(),(),y.1.2.2.2.2.2.1,true,()),(y.2.1.1,y.2.1.2.1,y.2.1.2.2.1,y.2.1.2.2.2.1,()),y.2.2.1,y.2.2.2.1,())
theorem aeM:aT O (an (codeOf Tryz.f180) 1 63988) (aU NE Ny NQ):=b8 vy (by kernel_rfl) af fun y=>by kernel_rfl
abbrev i180:Shape:=⟨[ak 0],[],110⟩
abbrev Wr:Shape:=⟨[au 2 2 0,ak 3,ap 4],[ar 2 [ah,aX,aX,ah]],110⟩
noncomputable def f180(a:i180.F):Option Wr.F:=
(f73 ((a.1.1,(10:Int),(1:Int),()),())).bind fun b=>
 bif(decide ((b.2.1.length:Int)<(2:Int))) then
 some (((),([]:J),false,()),(([]:J),(0:Int),(0:Int),([]:J),()),())
else
(bk b.2.1.length (0:Int)).bind fun c=>
(b.2.1[c]?).bind fun d=>
(f73 ((d,(32:Int),(4:Int),()),())).bind fun e=>
(Qt (((),([]:J),false,(),(),()),(([]:J),(0:Int),(0:Int),([]:J),()),b.2.1,e.2.1,())).bind fun f=>
 bif f.1.2.2.2.2.2.1 then
(bk f.2.2.2.1.length (2:Int)).bind fun g=>
(f.2.2.2.1[g]?).bind fun h=>
(bk f.2.2.2.1.length (1:Int)).bind fun i=>
(f.2.2.2.1[i]?).bind fun j=>
(f74 ((j,()),())).bind fun k=>
(bk f.2.2.1.length (1:Int)).bind fun l=>
(f.2.2.1[l]?).bind fun m=>
 some (((),m,true,()),(h,(1:Int),k.1.1,([]:J),()),())
else
(Qs (((),f.1.2.1,f.1.2.2.1,(),(),()),(f.2.1.1,f.2.1.2.1,f.2.1.2.2.1,f.2.1.2.2.2.1,()),f.2.2.1,f.2.2.2.1,())).bind fun n=>
 bif n.1.2.2.2.2.2.1 then
(bk n.2.2.2.1.length (1:Int)).bind fun B=>
(n.2.2.2.1[B]?).bind fun p=>
(bk n.2.2.2.1.length (2:Int)).bind fun q=>
(n.2.2.2.1[q]?).bind fun r=>
(bk n.2.2.1.length (1:Int)).bind fun s=>
(n.2.2.1[s]?).bind fun t=>
 some (((),t,true,()),(p,(3:Int),(0:Int),r,()),())
else
(O_ (((),n.1.2.1,n.1.2.2.1,(),(),()),(n.2.1.1,n.2.1.2.1,n.2.1.2.2.1,n.2.1.2.2.2.1,()),n.2.2.1,n.2.2.2.1,())).bind fun u=>
 bif u.1.2.2.2.2.2.1 then
(bk u.2.2.2.1.length (3:Int)).bind fun v=>
(u.2.2.2.1[v]?).bind fun w=>
(f74 ((w,()),())).bind fun x=>
(NQ (((),u.1.2.1,u.1.2.2.1,(),(),x.1.1,()),(u.2.1.1,u.2.1.2.1,u.2.1.2.2.1,u.2.1.2.2.2.1,()),u.2.2.1,u.2.2.2.1,())).bind fun y=>
 bif y.1.2.2.2.2.2.2.1 then
 some (((),([]:J),false,()),(([]:J),(0:Int),(0:Int),([]:J),()),())
else
(bk y.2.2.2.1.length (2:Int)).bind fun z=>
(y.2.2.2.1[z]?).bind fun A=>
(bk y.2.2.2.1.length (1:Int)).bind fun bn=>
(y.2.2.2.1[bn]?).bind fun C=>
(f74 ((C,()),())).bind fun be=>
(bk y.2.2.1.length (1:Int)).bind fun E=>
(y.2.2.1[E]?).bind fun aR=>
(bu aR (0:Int) y.1.2.2.2.2.2.1).bind fun G=>
(bk y.2.2.1.length (1:Int)).bind fun H=>
(y.2.2.1[H]?).bind fun I=>
(bu I (IntKind.i64.wrap (y.1.2.2.2.2.2.1+(1:Int))) (I.length:Int)).bind fun eR=>
 some (((),eR,true,()),(A,(2:Int),be.1.1,G,()),())
else
 some (((),([]:J),false,()),(([]:J),(0:Int),(0:Int),([]:J),()),())
noncomputable def YF:aB:=aG ad Tryz.f180 i180 Wr [] f180
theorem ap4:ay O 180 YF:=aJ vy Tryz.func180 (by kernel_rfl) (a6 aiy (a6 aix (a6 ago (a6 aeM af)))) (fun y=>by kernel_rfl) fun a=>by kernel_rfl
theorem _1{n:Nat}(h:1<n):bk n (1:Int)=some 1:=fO h
theorem _0{n:Nat}(h:2<n):bk n (2:Int)=some 2:=fO h
theorem _Z{n:Nat}(h:3<n):bk n (3:Int)=some 3:=fO h
noncomputable abbrev as6:a7:=[(73,ph),(179,YG)]
theorem vz:aQ O (aY ad as6):=aV ⟨qq,ap5,⟨⟩⟩
abbrev M7:Shape:=⟨[au 2 2 0,au 5 5 0,a_ 6 3000384,ak 7,ag 8,a_ 9 3000576],[bm 5000130 .need 2 2,bm 5000131 .entry 2 3,ar 2 [ah,ah,.own 5000130,.own 5000131],bm 5000322 .need 5 2,bm 5000323 .entry 5 3,ar 5 [ah,ah,.own 5000322,.own 5000323],a8 3000384 .str 6 0,a8 3000576 .str 9 0],118⟩
abbrev M0:List aO:=[(.norm,⟨[au 2 2 0,au 5 5 0,a_ 6 3000384,ak 7,ag 8,a_ 9 3000576,ap 52],[bm 5000130 .need 2 2,bm 5000131 .entry 2 3,ar 2 [ah,ah,.own 5000130,.own 5000131],bm 5000322 .need 5 2,bm 5000323 .entry 5 3,ar 5 [ah,ah,.own 5000322,.own 5000323],a8 3000384 .str 6 0,a8 3000576 .str 9 0],118⟩)]
noncomputable def Nk(y:M7.F):Option (aA M0):=
 bif(y.1.2.2.2.2.1==(1:Int)) then
(bk y.2.2.2.2.2.2.2.2.1.length (0:Int)).bind fun a=>
(y.2.2.2.2.2.2.2.2.1[a]?).bind fun b=>
 bif(b==([112,97,99,107]:J)) then
 some (((),(),(),y.1.2.2.2.1,y.1.2.2.2.2.1,(),((y.2.2.2.2.2.2.2.2.1.length:Int)==(3:Int)),()),y.2.1,y.2.2.1,(y.2.2.2.1.1,y.2.2.2.1.2.1,(),(),()),y.2.2.2.2.1,y.2.2.2.2.2.1,(y.2.2.2.2.2.2.1.1,y.2.2.2.2.2.2.1.2.1,(),(),()),y.2.2.2.2.2.2.2.1,y.2.2.2.2.2.2.2.2.1,())
else
 some (((),(),(),y.1.2.2.2.1,y.1.2.2.2.2.1,(),false,()),y.2.1,y.2.2.1,(y.2.2.2.1.1,y.2.2.2.1.2.1,(),(),()),y.2.2.2.2.1,y.2.2.2.2.2.1,(y.2.2.2.2.2.2.1.1,y.2.2.2.2.2.2.1.2.1,(),(),()),y.2.2.2.2.2.2.2.1,y.2.2.2.2.2.2.2.2.1,())
else
 some (((),(),(),y.1.2.2.2.1,y.1.2.2.2.2.1,(),false,()),y.2.1,y.2.2.1,(y.2.2.2.1.1,y.2.2.2.1.2.1,(),(),()),y.2.2.2.2.1,y.2.2.2.2.2.1,(y.2.2.2.2.2.2.1.1,y.2.2.2.2.2.2.1.2.1,(),(),()),y.2.2.2.2.2.2.2.1,y.2.2.2.2.2.2.2.2.1,())
theorem adT:aT O (an (cN (an (codeOf Tryz.f126) 1 250)) 500 128156) (aU M7 M0 Nk):=b8 vz (by kernel_rfl) af fun y=>by kernel_rfl
abbrev M6:Shape:=⟨[au 2 2 0,au 5 5 0,a_ 6 3000384,ak 7,ag 8,a_ 9 3000576],[bm 5000130 .need 2 2,bm 5000131 .entry 2 3,ar 2 [ah,ah,.own 5000130,.own 5000131],bm 5000322 .need 5 2,bm 5000323 .entry 5 3,ar 5 [ah,ah,.own 5000322,.own 5000323],a8 3000384 .str 6 0,a8 3000576 .str 9 0],118⟩
abbrev MZ:List aO:=[(.norm,⟨[au 2 2 0,au 5 5 0,a_ 6 3000384,ak 7,ag 8,a_ 9 3000576,ap 74],[bm 5000130 .need 2 2,bm 5000131 .entry 2 3,ar 2 [ah,ah,.own 5000130,.own 5000131],bm 5000322 .need 5 2,bm 5000323 .entry 5 3,ar 5 [ah,ah,.own 5000322,.own 5000323],a8 3000384 .str 6 0,a8 3000576 .str 9 0],118⟩)]
noncomputable def Nj(y:M6.F):Option (aA MZ):=
 bif(decide (y.1.2.2.2.2.1>(1:Int))) then
(bk y.2.2.2.2.2.2.2.1.length y.1.2.2.2.2.1).bind fun a=>
(y.2.2.2.2.2.2.2.1[a]?).bind fun b=>
 some (((),(),(),y.1.2.2.2.1,y.1.2.2.2.2.1,(),(b==([]:J)),()),y.2.1,y.2.2.1,(y.2.2.2.1.1,y.2.2.2.1.2.1,(),(),()),y.2.2.2.2.1,y.2.2.2.2.2.1,(y.2.2.2.2.2.2.1.1,y.2.2.2.2.2.2.1.2.1,(),(),()),y.2.2.2.2.2.2.2.1,y.2.2.2.2.2.2.2.2.1,())
else
 some (((),(),(),y.1.2.2.2.1,y.1.2.2.2.2.1,(),false,()),y.2.1,y.2.2.1,(y.2.2.2.1.1,y.2.2.2.1.2.1,(),(),()),y.2.2.2.2.1,y.2.2.2.2.2.1,(y.2.2.2.2.2.2.1.1,y.2.2.2.2.2.2.1.2.1,(),(),()),y.2.2.2.2.2.2.2.1,y.2.2.2.2.2.2.2.2.1,())
theorem adS:aT O (an (cN (an (codeOf Tryz.f126) 1 250)) 500 512630) (aU M6 MZ Nj):=b8 vz (by kernel_rfl) af fun y=>by kernel_rfl
abbrev MH:Shape:=⟨[au 2 2 0,au 5 5 0,a_ 6 3000384,ak 7,ag 8,a_ 9 3000576],[bm 5000130 .need 2 2,bm 5000131 .entry 2 3,ar 2 [ah,ah,.own 5000130,.own 5000131],bm 5000322 .need 5 2,bm 5000323 .entry 5 3,ar 5 [ah,ah,.own 5000322,.own 5000323],a8 3000384 .str 6 0,a8 3000576 .str 9 0],118⟩
abbrev MG:List aO:=[(.norm,⟨[au 2 2 0,au 5 5 0,a_ 6 3000384,ak 7,ag 8,a_ 9 3000576,ap 86],[bm 5000130 .need 2 2,bm 5000131 .entry 2 3,ar 2 [ah,ah,.own 5000130,.own 5000131],bm 5000322 .need 5 2,bm 5000323 .entry 5 3,ar 5 [ah,ah,.own 5000322,.own 5000323],a8 3000384 .str 6 0,a8 3000576 .str 9 0],118⟩)]
noncomputable def MP(y:MH.F):Option (aA MG):=
 bif(decide (y.1.2.2.2.2.1>(1:Int))) then
(bk y.2.2.2.2.2.2.2.2.1.length (0:Int)).bind fun a=>
(y.2.2.2.2.2.2.2.2.1[a]?).bind fun b=>
 bif(b==([110,101,101,100]:J)) then
 some (((),(),(),y.1.2.2.2.1,y.1.2.2.2.2.1,(),((y.2.2.2.2.2.2.2.2.1.length:Int)==(2:Int)),()),y.2.1,y.2.2.1,(y.2.2.2.1.1,y.2.2.2.1.2.1,(),(),()),y.2.2.2.2.1,y.2.2.2.2.2.1,(y.2.2.2.2.2.2.1.1,y.2.2.2.2.2.2.1.2.1,(),(),()),y.2.2.2.2.2.2.2.1,y.2.2.2.2.2.2.2.2.1,())
else
 some (((),(),(),y.1.2.2.2.1,y.1.2.2.2.2.1,(),false,()),y.2.1,y.2.2.1,(y.2.2.2.1.1,y.2.2.2.1.2.1,(),(),()),y.2.2.2.2.1,y.2.2.2.2.2.1,(y.2.2.2.2.2.2.1.1,y.2.2.2.2.2.2.1.2.1,(),(),()),y.2.2.2.2.2.2.2.1,y.2.2.2.2.2.2.2.2.1,())
else
 some (((),(),(),y.1.2.2.2.1,y.1.2.2.2.2.1,(),false,()),y.2.1,y.2.2.1,(y.2.2.2.1.1,y.2.2.2.1.2.1,(),(),()),y.2.2.2.2.1,y.2.2.2.2.2.1,(y.2.2.2.2.2.2.1.1,y.2.2.2.2.2.2.1.2.1,(),(),()),y.2.2.2.2.2.2.2.1,y.2.2.2.2.2.2.2.2.1,())
theorem ac8:aT O (an (cN (an (codeOf Tryz.f126) 1 250)) 500 2050526) (aU MH MG MP):=b8 vz (by kernel_rfl) af fun y=>by kernel_rfl
abbrev x6:Shape:=⟨[au 2 2 0,au 5 5 0,a_ 6 3000384,ak 7,ag 8],[bm 5000130 .need 2 2,bm 5000131 .entry 2 3,ar 2 [ah,ah,.own 5000130,.own 5000131],bm 5000322 .need 5 2,bm 5000323 .entry 5 3,ar 5 [ah,ah,.own 5000322,.own 5000323],a8 3000384 .str 6 0],118⟩
abbrev E3:List aO:=[(.ret,⟨[au 2 2 0,ak 3,ap 4],[bm 5000130 .need 2 2,bm 5000131 .entry 2 3,ar 2 [ah,ah,.own 5000130,.own 5000131]],118⟩),(.exit 0,⟨[au 2 2 0,au 5 5 0],[bm 5000130 .need 2 2,bm 5000131 .entry 2 3,ar 2 [ah,ah,.own 5000130,.own 5000131],bm 5000322 .need 5 2,bm 5000323 .entry 5 3,ar 5 [ah,ah,.own 5000322,.own 5000323]],118⟩)]
noncomputable def ajf(y:x6.F):bD x6 E3:=
 bif(decide (y.1.2.2.2.2.1<(y.2.2.2.2.2.2.2.1.length:Int))) then
 bif(decide (y.1.2.2.2.2.1<=(8:Int))) then
(bk y.2.2.2.2.2.2.2.1.length y.1.2.2.2.2.1).bind fun a=>
(y.2.2.2.2.2.2.2.1[a]?).bind fun b=>
(f73 ((b,(32:Int),(2:Int),()),())).bind fun c=>
(bk y.2.2.2.2.2.2.2.1.length y.1.2.2.2.2.1).bind fun d=>
(y.2.2.2.2.2.2.2.1[d]?).bind fun e=>
 bif(decide ((y.1.2.2.2.1.length:Int)<(IntKind.i64.wrap ((e.length:Int)+(1:Int))))) then
 some (.inr (.inl (((),([]:J),false,()),y.2.2.2.2.1,y.2.2.2.2.2.1,(y.2.2.2.2.2.2.1.1,y.2.2.2.2.2.2.1.2.1,(),(),()),())))
else
(bk y.2.2.2.2.2.2.2.1.length y.1.2.2.2.2.1).bind fun f=>
(y.2.2.2.2.2.2.2.1[f]?).bind fun g=>
(bu y.1.2.2.2.1 (IntKind.i64.wrap ((g.length:Int)+(1:Int))) (y.1.2.2.2.1.length:Int)).bind fun h=>
(Nk (((),(),(),h,y.1.2.2.2.2.1,(),()),y.2.1,y.2.2.1,(y.2.2.2.1.1,y.2.2.2.1.2.1,(),(),()),y.2.2.2.2.1,y.2.2.2.2.2.1,(y.2.2.2.2.2.2.1.1,y.2.2.2.2.2.2.1.2.1,(),(),()),y.2.2.2.2.2.2.2.1,c.2.1,())).bind fun i=>
 bif i.1.2.2.2.2.2.2.1 then
(bk i.2.2.2.2.2.2.2.2.1.length (1:Int)).bind fun j=>
(i.2.2.2.2.2.2.2.2.1[j]?).bind fun k=>
(bk i.2.2.2.2.2.2.2.2.1.length (2:Int)).bind fun l=>
(i.2.2.2.2.2.2.2.2.1[l]?).bind fun m=>
 some (.inl (((),(),(),i.1.2.2.2.1,(IntKind.i64.wrap (i.1.2.2.2.2.1+(1:Int))),()),i.2.1,i.2.2.1,(i.2.2.2.1.1,i.2.2.2.1.2.1,(),(),()),i.2.2.2.2.1,i.2.2.2.2.2.1,(k,m,(),(),()),i.2.2.2.2.2.2.2.1,()))
else
(Nj (((),(),(),i.1.2.2.2.1,i.1.2.2.2.2.1,(),()),i.2.1,i.2.2.1,(i.2.2.2.1.1,i.2.2.2.1.2.1,(),(),()),i.2.2.2.2.1,i.2.2.2.2.2.1,(i.2.2.2.2.2.2.1.1,i.2.2.2.2.2.2.1.2.1,(),(),()),i.2.2.2.2.2.2.2.1,i.2.2.2.2.2.2.2.2.1,())).bind fun n=>
 bif n.1.2.2.2.2.2.2.1 then
 some (.inr (.inl (((),n.1.2.2.2.1,true,()),n.2.2.2.2.1,n.2.2.2.2.2.1,(n.2.2.2.2.2.2.1.1,n.2.2.2.2.2.2.1.2.1,(),(),()),())))
else
(MP (((),(),(),n.1.2.2.2.1,n.1.2.2.2.2.1,(),()),n.2.1,n.2.2.1,(n.2.2.2.1.1,n.2.2.2.1.2.1,(),(),()),n.2.2.2.2.1,n.2.2.2.2.2.1,(n.2.2.2.2.2.2.1.1,n.2.2.2.2.2.2.1.2.1,(),(),()),n.2.2.2.2.2.2.2.1,n.2.2.2.2.2.2.2.2.1,())).bind fun B=>
 bif B.1.2.2.2.2.2.2.1 then
(bk B.2.2.2.2.2.2.2.2.1.length (1:Int)).bind fun p=>
(B.2.2.2.2.2.2.2.2.1[p]?).bind fun q=>
(f179 ((q,()),())).bind fun r=>
(cj 40 B.2.2.2.2.1 ([(bQ.mk r.2.1.1 r.2.1.2.1 r.2.1.2.2.1)]:List bQ)).bind fun s=>
 some (.inl (((),(),(),B.1.2.2.2.1,(IntKind.i64.wrap (B.1.2.2.2.2.1+(1:Int))),()),B.2.1,B.2.2.1,(B.2.2.2.1.1,B.2.2.2.1.2.1,(),(),()),s,B.2.2.2.2.2.1,(B.2.2.2.2.2.2.1.1,B.2.2.2.2.2.2.1.2.1,(),(),()),B.2.2.2.2.2.2.2.1,()))
else
 bif(decide (B.1.2.2.2.2.1>(0:Int))) then
 some (.inr (.inl (((),([]:J),false,()),B.2.2.2.2.1,B.2.2.2.2.2.1,(B.2.2.2.2.2.2.1.1,B.2.2.2.2.2.2.1.2.1,(),(),()),())))
else
 some (.inl (((),(),(),B.1.2.2.2.1,(IntKind.i64.wrap (B.1.2.2.2.2.1+(1:Int))),()),B.2.1,B.2.2.1,(B.2.2.2.1.1,B.2.2.2.1.2.1,(),(),()),B.2.2.2.2.1,B.2.2.2.2.2.1,(B.2.2.2.2.2.2.1.1,B.2.2.2.2.2.2.1.2.1,(),(),()),B.2.2.2.2.2.2.2.1,()))
else
 some (.inr (.inr (((),(),()),y.2.1,y.2.2.1,(y.2.2.2.1.1,y.2.2.2.1.2.1,(),(),()),y.2.2.2.2.1,y.2.2.2.2.2.1,(y.2.2.2.2.2.2.1.1,y.2.2.2.2.2.2.1.2.1,(),(),()),())))
else
 some (.inr (.inr (((),(),()),y.2.1,y.2.2.1,(y.2.2.2.1.1,y.2.2.2.1.2.1,(),(),()),y.2.2.2.2.1,y.2.2.2.2.2.1,(y.2.2.2.2.2.2.1.1,y.2.2.2.2.2.2.1.2.1,(),(),()),())))
noncomputable def Qg:x6.F->Option (aA E3):=bo ajf
theorem aiD:aT O (an (codeOf Tryz.f126) 1 250) (aU x6 E3 Qg):=bE vz (by kernel_rfl) (a6 adT (a6 adS (a6 ac8 af))) fun y=>by kernel_rfl
abbrev i126:Shape:=⟨[ak 0],[],118⟩
abbrev W6:Shape:=⟨[au 2 2 0,ak 3,ap 4],[bm 5000130 .need 2 2,bm 5000131 .entry 2 3,ar 2 [ah,ah,.own 5000130,.own 5000131]],118⟩
noncomputable def f126(a:i126.F):Option W6.F:=
(f73 ((a.1.1,(10:Int),(IntKind.i64.wrap ((a.1.1.length:Int)+(1:Int))),()),())).bind fun b=>
(Qg (((),(),(),a.1.1,(0:Int),()),([]:List bQ),([]:List az),(([]:J),([]:J),(),(),()),([]:List bQ),([]:List az),(([]:J),([]:J),(),(),()),b.2.1,())).bind fun c=>
(match c with
|.inl d=>
 some (((),d.1.2.1,d.1.2.2.1,()),d.2.1,d.2.2.1,(d.2.2.2.1.1,d.2.2.2.1.2.1,(),(),()),())
|.inr e=>
 some (((),([]:J),false,()),e.2.2.2.2.1,e.2.2.2.2.2.1,(e.2.2.2.2.2.2.1.1,e.2.2.2.2.2.2.1.2.1,(),(),()),()))
noncomputable def Za:aB:=aG ad Tryz.f126 i126 W6 [] f126
theorem aqo:ay O 126 Za:=aJ vz Tryz.func126 (by kernel_rfl) (a6 aiD af) (fun y=>by kernel_rfl) fun a=>by kernel_rfl
noncomputable abbrev as5:a7:=[(90,wj),(180,YF),(181,JQ)]
theorem ZK:aQ O (aY ad as5):=aV ⟨B_,ap4,Vj,⟨⟩⟩
abbrev y7:Shape:=⟨[ak 0,a_ 4 3000256,ak 5],[a8 3000256 .entry 4 0],41⟩
abbrev Gr:List aO:=[(.ret,⟨[a_ 2 3000128,ap 3],[a8 3000128 .entry 2 0],41⟩),(.exit 0,⟨[ak 0,a_ 4 3000256],[a8 3000256 .entry 4 0],41⟩)]
noncomputable def alw(y:y7.F):bD y7 Gr:=
 bif(!(y.1.2.2.1==([]:J))) then
 bif(decide ((y.2.1.length:Int)<=(16:Int))) then
(f180 ((y.1.2.2.1,()),())).bind fun a=>
 bif(!a.1.2.2.1) then
 some (.inr (.inl (((),false,()),y.2.1,())))
else
(cj 48 y.2.1 ([(az.mk a.2.1.1 a.2.1.2.1 a.2.1.2.2.1 a.2.1.2.2.2.1)]:List az)).bind fun b=>
 some (.inl ((y.1.1,(),a.1.2.1,()),b,()))
else
 some (.inr (.inr ((y.1.1,(),()),y.2.1,())))
else
 some (.inr (.inr ((y.1.1,(),()),y.2.1,())))
noncomputable def RL:y7.F->Option (aA Gr):=bo alw
theorem akW:aT O (an (codeOf Tryz.f127) 1 60) (aU y7 Gr RL):=bE ZK (by kernel_rfl) af fun y=>by kernel_rfl
abbrev i127:Shape:=⟨[ak 0],[],41⟩
abbrev W5:Shape:=⟨[a_ 2 3000128,ap 3],[a8 3000128 .entry 2 0],41⟩
noncomputable def f127(a:i127.F):Option W5.F:=
(RL ((a.1.1,(),a.1.1,()),([]:List az),())).bind fun b=>
(match b with
|.inl c=>
 some (((),c.1.2.1,()),c.2.1,())
|.inr d=>
(f90 ((d.2.1,()),())).bind fun e=>
 bif e.1.1 then
(f181 ((d.2.1,()),())).bind fun f=>
 some (((),(f.1.1==d.1.1),()),d.2.1,())
else
 some (((),false,()),d.2.1,()))
noncomputable def Y':aB:=aG ad Tryz.f127 i127 W5 [] f127
theorem z127:ay O 127 Y':=aJ ZK Tryz.func127 (by kernel_rfl) (a6 akW af) (fun y=>by kernel_rfl) fun a=>by kernel_rfl
abbrev Dc(k:Nat)(r:J)(ns:List bQ)(dX vs:J):Prop:=r.length<=k/\ns.length<=9/\B8 k ns/\dX.length<=k/\vs.length<=k
noncomputable abbrev axv:a7:=[(50,CQ),(123,JZ),(126,Za),(127,Y')]
theorem LF:aQ O (aY ad axv):=aV ⟨Kf,Vn,aqo,z127,⟨⟩⟩
abbrev SC:Shape:=⟨[ak 0,au 2 2 0,au 4 4 0,ak 5,ap 6],[bm 5000130 .need 2 2,bm 5000131 .entry 2 3,ar 2 [ah,ah,.own 5000130,.own 5000131],bm 5000258 .need 4 2,bm 5000259 .entry 4 3,ar 4 [ah,ah,.own 5000258,.own 5000259]],45⟩
abbrev Sq:List aO:=[(.norm,⟨[ak 0,au 2 2 0,au 4 4 0,ak 5,ap 21],[bm 5000130 .need 2 2,bm 5000131 .entry 2 3,ar 2 [ah,ah,.own 5000130,.own 5000131],bm 5000258 .need 4 2,bm 5000259 .entry 4 3,ar 4 [ah,ah,.own 5000258,.own 5000259]],45⟩)]
noncomputable def TO(y:SC.F):Option (aA Sq):=
 bif(!(!y.1.2.2.2.2.1)) then
 some ((y.1.1,(),(),y.1.2.2.2.1,(decide ((y.1.1.length:Int)>(4000:Int))),()),y.2.1,y.2.2.1,(y.2.2.2.1.1,y.2.2.2.1.2.1,(),(),()),y.2.2.2.2.1,y.2.2.2.2.2.1,(y.2.2.2.2.2.2.1.1,y.2.2.2.2.2.2.1.2.1,(),(),()),())
else
 some ((y.1.1,(),(),y.1.2.2.2.1,true,()),y.2.1,y.2.2.1,(y.2.2.2.1.1,y.2.2.2.1.2.1,(),(),()),y.2.2.2.2.1,y.2.2.2.2.2.1,(y.2.2.2.2.2.2.1.1,y.2.2.2.2.2.2.1.2.1,(),(),()),())
theorem amw:aT O (an (codeOf Tryz.f76) 1 28) (aU SC Sq TO):=b8 LF (by kernel_rfl) af fun y=>by kernel_rfl
abbrev Q5:Shape:=⟨[ak 0,au 2 2 0,au 4 4 0,ap 8],[bm 5000130 .need 2 2,bm 5000131 .entry 2 3,ar 2 [ah,ah,.own 5000130,.own 5000131],bm 5000258 .need 4 2,bm 5000259 .entry 4 3,ar 4 [ah,ah,.own 5000258,.own 5000259]],45⟩
abbrev QL:List aO:=[(.norm,⟨[au 2 2 0,au 4 4 0,ap 42],[bm 5000130 .need 2 2,bm 5000131 .entry 2 3,ar 2 [ah,ah,.own 5000130,.own 5000131],bm 5000258 .need 4 2,bm 5000259 .entry 4 3,ar 4 [ah,ah,.own 5000258,.own 5000259]],45⟩)]
noncomputable def RV(y:Q5.F):Option (aA QL):=
 bif(!(!y.1.2.2.2.1)) then
(f50 (((y.2.2.2.2.2.2.1.1,y.2.2.2.2.2.2.1.2.1,y.2.2.2.2.1,y.2.2.2.2.2.1,()),()),())).bind fun a=>
 bif(!(!a.1.1)) then
(f123 (((y.2.2.2.2.2.2.1.1,y.2.2.2.2.2.2.1.2.1,y.2.2.2.2.1,y.2.2.2.2.2.1,()),()),())).bind fun b=>
 some (((),(),(!(b.1.1==y.1.1)),()),y.2.1,y.2.2.1,(y.2.2.2.1.1,y.2.2.2.1.2.1,(),(),()),y.2.2.2.2.1,y.2.2.2.2.2.1,(y.2.2.2.2.2.2.1.1,y.2.2.2.2.2.2.1.2.1,(),(),()),())
else
 some (((),(),true,()),y.2.1,y.2.2.1,(y.2.2.2.1.1,y.2.2.2.1.2.1,(),(),()),y.2.2.2.2.1,y.2.2.2.2.2.1,(y.2.2.2.2.2.2.1.1,y.2.2.2.2.2.2.1.2.1,(),(),()),())
else
 some (((),(),true,()),y.2.1,y.2.2.1,(y.2.2.2.1.1,y.2.2.2.1.2.1,(),(),()),y.2.2.2.2.1,y.2.2.2.2.2.1,(y.2.2.2.2.2.2.1.1,y.2.2.2.2.2.2.1.2.1,(),(),()),())
theorem aj3:aT O (an (codeOf Tryz.f76) 1 252) (aU Q5 QL RV):=b8 LF (by kernel_rfl) af fun y=>by kernel_rfl
abbrev i76:Shape:=⟨[ak 0],[],45⟩
abbrev _i:Shape:=⟨[au 2 2 0,ap 3],[bm 5000130 .need 2 2,bm 5000131 .entry 2 3,ar 2 [ah,ah,.own 5000130,.own 5000131]],45⟩
noncomputable def f76(a:i76.F):Option _i.F:=
(f126 ((a.1.1,()),())).bind fun b=>
(TO ((a.1.1,(),(),b.1.2.1,b.1.2.2.1,()),([]:List bQ),([]:List az),(([]:J),([]:J),(),(),()),b.2.1,b.2.2.1,(b.2.2.2.1.1,b.2.2.2.1.2.1,(),(),()),())).bind fun c=>
 bif c.1.2.2.2.2.1 then
 some (((),false,()),([]:List bQ),([]:List az),(([]:J),([]:J),(),(),()),())
else
(f127 ((c.1.2.2.2.1,()),())).bind fun d=>
(RV ((c.1.1,(),(),d.1.2.1,()),c.2.1,c.2.2.1,(c.2.2.2.1.1,c.2.2.2.1.2.1,(),(),()),c.2.2.2.2.1,d.2.1,(c.2.2.2.2.2.2.1.1,c.2.2.2.2.2.2.1.2.1,(),(),()),())).bind fun e=>
 bif e.1.2.2.1 then
 some (((),false,()),([]:List bQ),([]:List az),(([]:J),([]:J),(),(),()),())
else
 some (((),true,()),e.2.2.2.2.1,e.2.2.2.2.2.1,(e.2.2.2.2.2.2.1.1,e.2.2.2.2.2.2.1.2.1,(),(),()),())
noncomputable def aaO:aB:=aG ad Tryz.f76 i76 _i [] f76
theorem z76:ay O 76 aaO:=aJ LF Tryz.func76 (by kernel_rfl) (a6 amw (a6 aj3 af)) (fun y=>by kernel_rfl) fun a=>by kernel_rfl
noncomputable abbrev axM:a7:=[(30,wl),(70,CO),(73,ph),(74,CN),(75,n4),(76,aaO)]
theorem CU:aQ O (aY ad axM):=aV ⟨Ca,z70,qq,Kd,z75,z76,⟨⟩⟩
abbrev PU:Shape:=⟨[ak 0,au 2 2 0,au 4 4 0,a_ 6 3000384,ag 7],[bm 5000128 .pack 2 0,ar 2 [.own 5000128],bm 5000256 .pack 4 0,ar 4 [.own 5000256],a8 3000384 .str 6 0],73⟩
abbrev PC:List aO:=[(.norm,⟨[ak 0,au 2 2 0,au 4 4 0,a_ 6 3000384,ag 7,ap 37],[bm 5000128 .pack 2 0,ar 2 [.own 5000128],bm 5000256 .pack 4 0,ar 4 [.own 5000256],a8 3000384 .str 6 0],73⟩)]
noncomputable def Qp(y:PU.F):Option (aA PC):=
 bif(!(decide ((y.2.2.2.2.2.1.length:Int)<(2:Int)))) then
(bk y.2.2.2.2.2.1.length (1:Int)).bind fun a=>
(y.2.2.2.2.2.1[a]?).bind fun b=>
(f75 ((y.1.2.2.2.2.1,(1:Int),(b.length:Int),()),())).bind fun c=>
 some ((y.1.1,(),(),(),y.1.2.2.2.2.1,(!c.1.1),()),y.2.1,((),()),y.2.2.2.1,((),()),y.2.2.2.2.2.1,())
else
 some ((y.1.1,(),(),(),y.1.2.2.2.2.1,true,()),y.2.1,((),()),y.2.2.2.1,((),()),y.2.2.2.2.2.1,())
theorem aig:aT O (an (cN (an (codeOf Tryz.f39) 1 60)) 120 7724) (aU PU PC Qp):=b8 CU (by kernel_rfl) af fun y=>by kernel_rfl
abbrev Ak:Shape:=⟨[ak 0,au 2 2 0,au 4 4 0,ak 5],[bm 5000128 .pack 2 0,ar 2 [.own 5000128],bm 5000256 .pack 4 0,ar 4 [.own 5000256]],73⟩
abbrev HR:List aO:=[(.ret,⟨[au 2 2 0,ap 3],[bm 5000128 .pack 2 0,ar 2 [.own 5000128]],73⟩),(.exit 0,⟨[ak 0,au 2 2 0,au 4 4 0],[bm 5000128 .pack 2 0,ar 2 [.own 5000128],bm 5000256 .pack 4 0,ar 4 [.own 5000256]],73⟩)]
noncomputable def am8(y:Ak.F):bD Ak HR:=
 bif(!(y.1.2.2.2.1==([]:J))) then
 bif(decide ((y.2.2.2.1.length:Int)<=(5:Int))) then
(f73 ((y.1.2.2.2.1,(10:Int),(1:Int),()),())).bind fun a=>
(bk a.2.1.length (0:Int)).bind fun b=>
(a.2.1[b]?).bind fun c=>
(f74 ((c,()),())).bind fun d=>
(Qp ((y.1.1,(),(),(),d.1.1,()),y.2.1,((),()),y.2.2.2.1,((),()),a.2.1,())).bind fun e=>
 bif e.1.2.2.2.2.2.1 then
 some (.inr (.inl (((),false,()),([]:List aS),((),()),())))
else
(bk e.2.2.2.2.2.1.length (1:Int)).bind fun f=>
(e.2.2.2.2.2.1[f]?).bind fun g=>
(bu g (0:Int) e.1.2.2.2.2.1).bind fun h=>
(f76 ((h,()),())).bind fun i=>
 bif(!i.1.2.1) then
 some (.inr (.inl (((),false,()),([]:List aS),((),()),())))
else
(cj 80 e.2.2.2.1 ([(aS.mk i.2.2.2.1.1 i.2.2.2.1.2.1 i.2.1 i.2.2.1)]:List aS)).bind fun j=>
(bk e.2.2.2.2.2.1.length (1:Int)).bind fun k=>
(e.2.2.2.2.2.1[k]?).bind fun l=>
(bu l e.1.2.2.2.2.1 (l.length:Int)).bind fun m=>
 some (.inl ((e.1.1,(),(),m,()),e.2.1,((),()),j,((),()),()))
else
 some (.inr (.inr ((y.1.1,(),(),()),y.2.1,((),()),y.2.2.2.1,((),()),())))
else
 some (.inr (.inr ((y.1.1,(),(),()),y.2.1,((),()),y.2.2.2.1,((),()),())))
noncomputable def Tj:Ak.F->Option (aA HR):=bo am8
theorem amK:aT O (an (codeOf Tryz.f39) 1 60) (aU Ak HR Tj):=bE CU (by kernel_rfl) (a6 aig af) fun y=>by kernel_rfl
abbrev Q7:Shape:=⟨[ak 0,au 2 2 0,au 4 4 0],[bm 5000128 .pack 2 0,ar 2 [.own 5000128],bm 5000256 .pack 4 0,ar 4 [.own 5000256]],73⟩
abbrev QN:List aO:=[(.norm,⟨[au 2 2 0,au 4 4 0,ap 70],[bm 5000128 .pack 2 0,ar 2 [.own 5000128],bm 5000256 .pack 4 0,ar 4 [.own 5000256]],73⟩)]
noncomputable def RW(y:Q7.F):Option (aA QN):=
(f30 (((y.2.2.2.1,()),()),())).bind fun a=>
 bif(!(!a.1.1)) then
(f70 (((y.2.2.2.1,()),()),())).bind fun b=>
 some (((),(),(!(b.1.1==y.1.1)),()),y.2.1,((),()),y.2.2.2.1,((),()),())
else
 some (((),(),true,()),y.2.1,((),()),y.2.2.2.1,((),()),())
theorem aj9:aT O (an (codeOf Tryz.f39) 1 124) (aU Q7 QN RW):=b8 CU (by kernel_rfl) af fun y=>by kernel_rfl
abbrev i39:Shape:=⟨[ak 0],[],73⟩
abbrev _C:Shape:=⟨[au 2 2 0,ap 3],[bm 5000128 .pack 2 0,ar 2 [.own 5000128]],73⟩
noncomputable def f39(a:i39.F):Option _C.F:=
(Tj ((a.1.1,(),(),a.1.1,()),([]:List aS),((),()),([]:List aS),((),()),())).bind fun b=>
(match b with
|.inl c=>
 some (((),c.1.2.1,()),c.2.1,((),()),())
|.inr d=>
(RW ((d.1.1,(),(),()),d.2.1,((),()),d.2.2.2.1,((),()),())).bind fun e=>
 bif e.1.2.2.1 then
 some (((),false,()),([]:List aS),((),()),())
else
 some (((),true,()),e.2.2.2.1,((),()),()))
noncomputable def aa0:aB:=aG ad Tryz.f39 i39 _C [] f39
theorem aum:ay O 39 aa0:=aJ CU Tryz.func39 (by kernel_rfl) (a6 amK (a6 aj9 af)) (fun y=>by kernel_rfl) fun a=>by kernel_rfl
noncomputable abbrev ax3:a7:=[(39,aa0)]
theorem ayp:aQ O (aY ad ax3):=aV ⟨aum,⟨⟩⟩
abbrev i12:Shape:=⟨[b5 0 [ah,ah]],[],17⟩
abbrev _T:Shape:=⟨[ap 2],[],17⟩
noncomputable def f12(a:i12.F):Option _T.F:=
(f39 ((a.1.1.1,()),())).bind fun b=>
 bif b.1.2.1 then
 some (((a.1.1.2.1==([]:J)),()),())
else
 some ((false,()),())
noncomputable def wq:aB:=aG ad Tryz.f12 i12 _T [] f12
theorem z12:ay O 12 wq:=aJ ayp Tryz.func12 (by kernel_rfl) af (fun y=>by kernel_rfl) fun a=>by kernel_rfl
noncomputable abbrev axQ:a7:=[(36,Lw),(43,CR),(63,Bp),(64,BT)]
theorem abr:aQ O (aY ad axQ):=aV ⟨ZW,Kg,Iv,IR,⟨⟩⟩
abbrev yx:Shape:=⟨[au 3 3 0,aK 11 .pack,ag 12,ag 13],[bm 5000193 .u8 3 1,ar 3 [.dh,.own 5000193]],28⟩
abbrev FV:List aO:=[(.exit 0,⟨[au 3 3 0],[bm 5000193 .u8 3 1,ar 3 [.dh,.own 5000193]],28⟩)]
noncomputable def um(y:yx.F):bD yx FV:=
 bif(decide (y.1.2.2.2.1<y.1.2.2.1)) then
(aN y.1.2.1 y.1.2.2.2.1).bind fun a=>
(f36 (((a.name,a.bf,a.bj,a.bH,()),()),())).bind fun b=>
(if-9223372036854775808<=(b.1.1.length:Int)/\(b.1.1.length:Int)<=9223372036854775807 then some () else none).bind fun c=>
(bX (Lib.itoa (b.1.1.length:Int)) ([10]:J)).bind fun d=>
(bX d b.1.1).bind fun e=>
(lQ (((),e,()),y.2.1,((),(),()),())).bind fun f=>
 some (.inl (((),y.1.2.1,y.1.2.2.1,(IntKind.i64.wrap (y.1.2.2.2.1+(1:Int))),()),f.2.1,((),(),()),()))
else
 some (.inr (((),()),y.2.1,((),(),()),()))
noncomputable def GK:yx.F->Option (aA FV):=bo um
theorem aka:aT O (an (codeOf Tryz.f34) 1 122) (aU yx FV GK):=bE abr (by kernel_rfl) af fun y=>by kernel_rfl
abbrev i34:Shape:=⟨[b5 0 [bl .pack]],[],28⟩
abbrev _F:Shape:=⟨[ak 2],[],28⟩
noncomputable def f34(a:i34.F):Option _F.F:=
(f43 (((a.1.1.1,()),()),())).bind fun b=>
 bif(!b.1.1) then
 some ((([]:J),()),())
else
(GK (((),a.1.1.1,(a.1.1.1.length:Int),(0:Int),()),([]:List Int),((),(),()),())).bind fun c=>
 some (((strOf c.2.1),()),())
noncomputable def Ly:aB:=aG ad Tryz.f34 i34 _F [] f34
theorem ZY:ay O 34 Ly:=aJ abr Tryz.func34 (by kernel_rfl) (a6 aka af) (fun y=>by kernel_rfl) fun a=>by kernel_rfl
theorem wg{aI me:Type}{B:Option aI}{x:aI}{k:aI->Option me}(h:B=some x):B.bind k=k x:=by rw[h];rfl
theorem alh(ps:List aS)(hb:fj ps)(hk:∀p,p∈ps->ct p=true)(bi:ps.length<=5)(i:Nat)(hi:i<ps.length):
  um (((),(ps,((ps.length:Int),((i:Int),())))),(bytesOf ((ps.take i).flatMap (fun p=>dU (cE p))),(((),((),())),())))=some (.inl (((),(ps,((ps.length:Int),(((i+1:Nat):Int),())))),(bytesOf ((ps.take (i+1)).flatMap (fun p=>dU (cE p))),(((),((),())),())))):=by
 obtain⟨p,he⟩:∃p,ps[i]? =some p:=⟨ps[i],List.getElem?_eq_getElem hi⟩;have d':=List.mem_of_getElem? he;have ia:((ps.take i).flatMap fun p=>dU (cE p)).length<=503317500:=by
  have h1:=rA (f:=fun p=>dU (cE p)) (xs:=ps.take i) (n:=100663500) fun p hp=>Ec (hb.2 p (pz hp)) (hk p (pz hp))
  have h2:=(List.take_sublist i ps).length_le;have aE:(ps.take i).length*100663500<=5*100663500:=Nat.mul_le_mul_right _ (by omega)
  omega
 have gO:=x' (hb.2 p d') (hk p d');have h2:=om (cE p).length (by omega)
 have _9:=hk p d';have KM:=DB p (hb.2 p d');simp only[_9,cond_true] at KM;have aaj:(ps.take (i+1)).flatMap (fun p=>dU (cE p))=(ps.take i).flatMap (fun p=>dU (cE p))++dU (cE p):=ml (fun p=>dU (cE p)) he
 rw[aaj];clear aaj _9 hk;generalize cE p=bn at gO h2 KM ⊢;generalize List.flatMap (fun p=>dU (cE p)) (List.take i ps)=A at ia ⊢
 have i2:=Ic (n:=(bn.length:Int)) ⟨by omega,by omega⟩
 have e1:=dA (s:=Lib.itoa (bn.length:Int)) (t:=[10]) (by simp;omega)
 have e2:=dA (s:=Lib.itoa (bn.length:Int)++[10]) (t:=bn) (by simp;omega)
 have dq:Lib.itoa (bn.length:Int)++[10]++bn=dU bn:=rfl;have fa:(dU bn).length<=100663500:=by unfold dU;simp;omega
 rw[dq] at e2;generalize dU bn=C at e2 fa ⊢;have bv:=ox (bytesOf A) C (by unfold ax;rw[iG];omega)
 simp only[um,cq hi,cond_true,bY,he,Option.bind_some];refine(wg KM).trans ((wg (if_pos ⟨?_,?_⟩)).trans ((wg e1).trans ((wg e2).trans ((wg bv).trans ?_))))
 ·rw[b4 (i:=i) (by unfold ax;omega),oh]
 ·show-9223372036854775808<=(bn.length:Int);omega
 ·show(bn.length:Int)<=9223372036854775807;omega
theorem aet(ps:List aS)(hb:fj ps)(hv:j7 ps):f34 (((ps,()),()),())=some ((bif fP ps then dZ ps else [],()),()):=by
 have h0:=D0 (((ps,()),()),()) hb hv;have h0:f43 (((ps,()),()),())=some ((fP ps,()),()):=h0;simp only[f34,h0,Option.bind_some];cases hr:fP ps with
 |false=>rfl
 |true=>
  have hk:=(og hr).1;have bi:=(og hr).2;have aD:GK (((),(ps,((ps.length:Int),((0:Int),())))),(([]:List Int),(((),((),())),())))=some (((),()),(bytesOf (dZ ps),(((),((),())),()))):=by
   refine fo (g:=um) (fun i=>(((),(ps,((ps.length:Int),((i:Int),())))),(bytesOf ((ps.take i).flatMap (fun p=>dU (cE p))),(((),((),())),())))) ps.length (fun i hi=>alh ps hb hk bi i hi) ?_ ps.length 0 (by omega)
   simp only[um,dd,cond_false,List.take_length,dZ]
  simp only[Bool.not_true,cond_false,cond_true,aD,Option.bind_some,tJ]
abbrev i186:Shape:=⟨[b5 0 [ah,aX,ah],ag 1],[],20⟩
abbrev Wn:Shape:=⟨[ag 4],[],20⟩
noncomputable def f186(a:i186.F):Option Wn.F:=
 bif(decide ((IntKind.i64.wrap (a.1.2.1-(a.1.1.1.length:Int)))<(0:Int))) then
 some ((((-1):Int),()),())
else
 bif(decide ((IntKind.i64.wrap ((IntKind.i64.wrap (a.1.2.1-(a.1.1.1.length:Int)))-(a.1.1.2.2.1.length:Int)))<(0:Int))) then
 some ((((-1):Int),()),())
else
 some (((IntKind.i64.wrap ((IntKind.i64.wrap (a.1.2.1-(a.1.1.1.length:Int)))-(a.1.1.2.2.1.length:Int))),()),())
noncomputable def YC:aB:=aG ad Tryz.f186 i186 Wn [] f186
theorem ap2:ay O 186 YC:=aJ g0 Tryz.func186 (by kernel_rfl) af (fun y=>by kernel_rfl) fun a=>by kernel_rfl
noncomputable abbrev as2:a7:=[(186,YC)]
theorem ZI:aQ O (aY ad as2):=aV ⟨ap2,⟨⟩⟩
abbrev x5:Shape:=⟨[aK 0 .need,ag 1,ag 5],[],27⟩
abbrev E2:List aO:=[(.ret,⟨[ag 4],[],27⟩),(.exit 0,⟨[ag 1],[],27⟩)]
noncomputable def aje(y:x5.F):bD x5 E2:=
 bif(decide (y.1.2.2.1<(y.1.1.length:Int))) then
(aN y.1.1 y.1.2.2.1).bind fun a=>
(f186 (((a.name,a.kind,a.bf,()),y.1.2.1,()),())).bind fun b=>
 bif(decide (b.1.1<(0:Int))) then
 some (.inr (.inl ((((-1):Int),()),())))
else
 some (.inl ((y.1.1,b.1.1,(IntKind.i64.wrap (y.1.2.2.1+(1:Int))),()),()))
else
 some (.inr (.inr ((y.1.2.1,()),())))
noncomputable def Qf:x5.F->Option (aA E2):=bo aje
theorem aiC:aT O (an (codeOf Tryz.f134) 1 122) (aU x5 E2 Qf):=bE ZI (by kernel_rfl) af fun y=>by kernel_rfl
abbrev i134:Shape:=⟨[aK 0 .need,ag 1],[],27⟩
abbrev W2:Shape:=⟨[ag 4],[],27⟩
noncomputable def f134(a:i134.F):Option W2.F:=
 bif(decide ((IntKind.i64.wrap (a.1.2.1-(a.1.1.length:Int)))<(0:Int))) then
 some ((((-1):Int),()),())
else
(Qf ((a.1.1,(IntKind.i64.wrap (a.1.2.1-(a.1.1.length:Int))),(0:Int),()),())).bind fun b=>
(match b with
|.inl c=>
 some ((c.1.1,()),())
|.inr d=>
 some ((d.1.1,()),()))
noncomputable def Y8:aB:=aG ad Tryz.f134 i134 W2 [] f134
theorem aqm:ay O 134 Y8:=aJ ZI Tryz.func134 (by kernel_rfl) (a6 aiC af) (fun y=>by kernel_rfl) fun a=>by kernel_rfl
abbrev i187:Shape:=⟨[b5 0 [ah,aX,aX,ah],ag 1],[],20⟩
abbrev Wm:Shape:=⟨[ag 4],[],20⟩
noncomputable def f187(a:i187.F):Option Wm.F:=
 bif(decide ((IntKind.i64.wrap (a.1.2.1-(a.1.1.1.length:Int)))<(0:Int))) then
 some ((((-1):Int),()),())
else
 bif(decide ((IntKind.i64.wrap ((IntKind.i64.wrap (a.1.2.1-(a.1.1.1.length:Int)))-(a.1.1.2.2.2.1.length:Int)))<(0:Int))) then
 some ((((-1):Int),()),())
else
 some (((IntKind.i64.wrap ((IntKind.i64.wrap (a.1.2.1-(a.1.1.1.length:Int)))-(a.1.1.2.2.2.1.length:Int))),()),())
noncomputable def YB:aB:=aG ad Tryz.f187 i187 Wm [] f187
theorem ap1:ay O 187 YB:=aJ g0 Tryz.func187 (by kernel_rfl) af (fun y=>by kernel_rfl) fun a=>by kernel_rfl
noncomputable abbrev as1:a7:=[(187,YB)]
theorem ZH:aQ O (aY ad as1):=aV ⟨ap1,⟨⟩⟩
abbrev x4:Shape:=⟨[aK 0 .entry,ag 1,ag 5],[],27⟩
abbrev E1:List aO:=[(.ret,⟨[ag 4],[],27⟩),(.exit 0,⟨[ag 1],[],27⟩)]
noncomputable def ajd(y:x4.F):bD x4 E1:=
 bif(decide (y.1.2.2.1<(y.1.1.length:Int))) then
(aN y.1.1 y.1.2.2.1).bind fun a=>
(f187 (((a.path,a.kind,a.mode,a.text,()),y.1.2.1,()),())).bind fun b=>
 bif(decide (b.1.1<(0:Int))) then
 some (.inr (.inl ((((-1):Int),()),())))
else
 some (.inl ((y.1.1,b.1.1,(IntKind.i64.wrap (y.1.2.2.1+(1:Int))),()),()))
else
 some (.inr (.inr ((y.1.2.1,()),())))
noncomputable def Qe:x4.F->Option (aA E1):=bo ajd
theorem aiB:aT O (an (codeOf Tryz.f135) 1 122) (aU x4 E1 Qe):=bE ZH (by kernel_rfl) af fun y=>by kernel_rfl
abbrev i135:Shape:=⟨[aK 0 .entry,ag 1],[],27⟩
abbrev W0:Shape:=⟨[ag 4],[],27⟩
noncomputable def f135(a:i135.F):Option W0.F:=
 bif(decide ((IntKind.i64.wrap (a.1.2.1-(a.1.1.length:Int)))<(0:Int))) then
 some ((((-1):Int),()),())
else
(Qe ((a.1.1,(IntKind.i64.wrap (a.1.2.1-(a.1.1.length:Int))),(0:Int),()),())).bind fun b=>
(match b with
|.inl c=>
 some ((c.1.1,()),())
|.inr d=>
 some ((d.1.1,()),()))
noncomputable def Y7:aB:=aG ad Tryz.f135 i135 W0 [] f135
theorem aql:ay O 135 Y7:=aJ ZH Tryz.func135 (by kernel_rfl) (a6 aiB af) (fun y=>by kernel_rfl) fun a=>by kernel_rfl
abbrev i188:Shape:=⟨[b5 0 [ah,aX,ah]],[],14⟩
abbrev Wl:Shape:=⟨[au 2 2 0],[ar 2 [ah,aX,ah]],14⟩
noncomputable def f188(a:i188.F):Option Wl.F:=
 some (((),()),(a.1.1.1,a.1.1.2.1,a.1.1.2.2.1,()),())
noncomputable def YA:aB:=aG ad Tryz.f188 i188 Wl [] f188
theorem ap0:ay O 188 YA:=aJ g0 Tryz.func188 (by kernel_rfl) af (fun y=>by kernel_rfl) fun a=>by kernel_rfl
noncomputable abbrev as0:a7:=[(188,YA)]
theorem ZG:aQ O (aY ad as0):=aV ⟨ap0,⟨⟩⟩
abbrev y4:Shape:=⟨[aK 0 .need,a_ 3 3000192,ag 4],[a8 3000192 .need 3 0],23⟩
abbrev Gp:List aO:=[(.exit 0,⟨[a_ 3 3000192],[a8 3000192 .need 3 0],23⟩)]
noncomputable def alv(y:y4.F):bD y4 Gp:=
 bif(decide (y.1.2.2.1<(y.1.1.length:Int))) then
(aN y.1.1 y.1.2.2.1).bind fun a=>
(f188 (((a.name,a.kind,a.bf,()),()),())).bind fun b=>
(bk y.2.1.length y.1.2.2.1).bind fun c=>
((y.2.1[c]?).bind fun q=>some (bQ.mk b.2.1.1 b.2.1.2.1 b.2.1.2.2.1)).bind fun d=>
 some (.inl ((y.1.1,(),(IntKind.i64.wrap (y.1.2.2.1+(1:Int))),()),(y.2.1.set c d),()))
else
 some (.inr (((),()),y.2.1,()))
noncomputable def RJ:y4.F->Option (aA Gp):=bo alv
theorem akT:aT O (an (codeOf Tryz.f136) 1 58) (aU y4 Gp RJ):=bE ZG (by kernel_rfl) af fun y=>by kernel_rfl
abbrev i136:Shape:=⟨[aK 0 .need],[],23⟩
abbrev WZ:Shape:=⟨[a_ 2 3000128],[a8 3000128 .need 2 0],23⟩
noncomputable def f136(a:i136.F):Option WZ.F:=
(jv 40 (a.1.1.length:Int) (a.1.1.length:Int) (bQ.mk ([]:J) (0:Int) ([]:J))).bind fun b=>
(RJ ((a.1.1,(),(0:Int),()),b,())).bind fun c=>
 some (((),()),c.2.1,())
noncomputable def Y6:aB:=aG ad Tryz.f136 i136 WZ [] f136
theorem aqk:ay O 136 Y6:=aJ ZG Tryz.func136 (by kernel_rfl) (a6 akT af) (fun y=>by kernel_rfl) fun a=>by kernel_rfl
abbrev i189:Shape:=⟨[b5 0 [ah,aX,aX,ah]],[],17⟩
abbrev Wk:Shape:=⟨[au 2 2 0],[ar 2 [ah,aX,aX,ah]],17⟩
noncomputable def f189(a:i189.F):Option Wk.F:=
 some (((),()),(a.1.1.1,a.1.1.2.1,a.1.1.2.2.1,a.1.1.2.2.2.1,()),())
noncomputable def Yz:aB:=aG ad Tryz.f189 i189 Wk [] f189
theorem apZ:ay O 189 Yz:=aJ g0 Tryz.func189 (by kernel_rfl) af (fun y=>by kernel_rfl) fun a=>by kernel_rfl
end Go.Proofs
