/- FnExactDiskOk: the program's DiskOk returns what the reference's returns, for all arguments. (part 5 of 7: JkKPuSa, JkKF277, JkKF257, JkKPuSb, JkKF121, JkKPuSc, JkKF256, JkKF220, JkKPuSd, JkKF122v0, JkKF219, JkKF173, JkKF69, JkKPuSe, JkKF63v0, JkKPl, JkKFH64, JkKF120, JkKF83, JkKF226, JkKF181, JkKPuPa, JkK) Conditions: none beyond the statement. -/
import Derived.Test.YthhecoidfjkmeaaGreatDoorZFnExactDiskOk3
import Derived.Tactics
import Derived.Deep.RegionLaw
import Derived.Shelf.Abstract
import Derived.Test.YthhecoidfjkmeaaGreatDoorProg
import Derived.KernelRfl
import Derived.Shelf.LaysM
import Derived.Shelf.Strconv.Itoa3
import Derived.Shelf.Strings.IndexAnyAll
import Derived.Laws.RangeAny
import Derived.Lib.OthersKept
import Derived.Shelf.Small.Utf8
import Derived.Laws.Runes
import Derived.Laws.Cover4
import Derived.WalkMore
import Derived.Shelf.RegionOpenPlain
set_option maxRecDepth 100000
set_option linter.unusedVariables false
set_option linter.unusedSimpArgs false
namespace Go.Proofs
open Go.Jk
theorem fH{J bp:Type}{g:J->Option (Sum J bp)}(st:Nat->J)(n:Nat){b:bp}(h:∀i,i<n->g (st i)=some (.inl (st (i+1))))(he:g (st n)=some (.inr b)):∀k i,i+k=n->bx g (st i)=some b:=by
 intro k;induction k with
 |zero=>
  intro i hi;obtain rfl:i=n:=by omega
  exact cm he
 |succ k ih=>
  intro i hi;rw[dD (h i (by omega))]
  exact ih (i+1) (by omega)
theorem adM(k:IntKind)(x y:Int):hH k x y=hH k y x:=by unfold hH;rw[BitVec.or_comm]
def kf(x n:Int):Int:=hH .u32 (x.fdiv (2^n.toNat)) (IntKind.u32.wrap (x*2^(32-n).toNat))
def eG(n:Int):Prop:=n=2\/n=6\/n=7\/n=11\/n=13\/n=17\/n=18\/n=19\/n=22\/n=25
theorem mf(x n:Int)(h:eG n):f278 ((x,(n,())),())=some ((kf x n,()),()):=by
 rcases h with rfl|rfl|rfl|rfl|rfl|rfl|rfl|rfl|rfl|rfl<;>rfl
theorem g_(x n:Int)(h:eG n):f171 ((x,(n,())),())=some ((kf x n,()),()):=by
 have a2:eu .u64 (IntKind.u64.wrap (IntKind.i64.wrap (0-2))) 31=30:=by decide
 have wP:eu .u64 (IntKind.u64.wrap (IntKind.i64.wrap (0-6))) 31=26:=by decide
 have wO:eu .u64 (IntKind.u64.wrap (IntKind.i64.wrap (0-7))) 31=25:=by decide
 have JP:eu .u64 (IntKind.u64.wrap (IntKind.i64.wrap (0-11))) 31=21:=by decide
 have aqe:eu .u64 (IntKind.u64.wrap (IntKind.i64.wrap (0-13))) 31=19:=by decide
 have aqc:eu .u64 (IntKind.u64.wrap (IntKind.i64.wrap (0-17))) 31=15:=by decide
 have aqb:eu .u64 (IntKind.u64.wrap (IntKind.i64.wrap (0-18))) 31=14:=by decide
 have aqa:eu .u64 (IntKind.u64.wrap (IntKind.i64.wrap (0-19))) 31=13:=by decide
 have ap9:eu .u64 (IntKind.u64.wrap (IntKind.i64.wrap (0-22))) 31=10:=by decide
 have ap8:eu .u64 (IntKind.u64.wrap (IntKind.i64.wrap (0-25))) 31=7:=by decide
 unfold kf;rw[adM];rcases h with rfl|rfl|rfl|rfl|rfl|rfl|rfl|rfl|rfl|rfl<;>simp only[f171,f217,a2,wP,wO,JP,aqe,aqc,aqb,aqa,ap9,ap8]<;>rfl
theorem od{x:Int}(h0:0<=x)(h1:x<4294967296):IntKind.u32.wrap x=x:=by rw[IntKind.wrap_u32];omega
theorem Dh{a:Nat}(h:a<4294967296):(BitVec.ofInt IntKind.u32.bits (a:Int)).toNat=a:=by
 rw[BitVec.ofInt_natCast,BitVec.toNat_ofNat];exact Nat.mod_eq_of_lt h
theorem yV{m y k:Nat}(hy:y<2^k)(h:m*2^k+y<4294967296):hH .u32 ((m*2^k:Nat):Int) (y:Int)=((m*2^k+y:Nat):Int):=by
 unfold hH;rw[BitVec.toNat_or,Dh (by omega),Dh (by omega),<-Nat.shiftLeft_eq,<-Nat.shiftLeft_add_eq_or_of_lt hy,Nat.shiftLeft_eq,od (by omega) (by omega)]
abbrev j3(x:Int):Prop:=0<=x/\x<=255
def wd(a b c d:Int):Int:=a*16777216+b*65536+c*256+d
def gI(w c:Int):Int:=hH .u32 (IntKind.u32.wrap (w*256)) (IntKind.u32.wrap c)
theorem xl{w c:Nat}(hw:w<16777216)(hc:c<256):gI w c=((w*256+c:Nat):Int):=by
 unfold gI;rw[od (x:=(w:Int)*256) (by omega) (by omega),od (x:=(c:Int)) (by omega) (by omega)]
 exact yV (k:=8) (by omega) (by omega)
theorem ou{x:Int}(h:j3 x):∃n:Nat,x=n/\n<256:=by
 obtain⟨n,rfl⟩:=Int.eq_ofNat_of_zero_le h.1;exact⟨n,rfl,by omega⟩
theorem aeC{a b c d:Int}(ha:j3 a)(hb:j3 b)(hc:j3 c)(Z:j3 d):gI (gI (gI (gI 0 a) b) c) d=wd a b c d:=by
 obtain⟨a,rfl,qW⟩:=ou ha;obtain⟨b,rfl,qV⟩:=ou hb;obtain⟨c,rfl,wG⟩:=ou hc;obtain⟨d,rfl,wF⟩:=ou Z;have eS:gI 0 (a:Int)=((0*256+a:Nat):Int):=xl (w:=0) (by omega) qW
 rw[eS,xl (by omega) qV,xl (by omega) wG,xl (by omega) wF]
 unfold wd;omega
theorem aeB{a b c d:Int}(ha:j3 a)(hb:j3 b)(hc:j3 c)(Z:j3 d):
  hH .u32 (hH .u32 (hH .u32 (IntKind.u32.wrap (IntKind.u32.wrap a*16777216)) (IntKind.u32.wrap (IntKind.u32.wrap b*65536))) (IntKind.u32.wrap (IntKind.u32.wrap c*256))) (IntKind.u32.wrap d)=wd a b c d:=by
 obtain⟨a,rfl,qW⟩:=ou ha;obtain⟨b,rfl,qV⟩:=ou hb;obtain⟨c,rfl,wG⟩:=ou hc;obtain⟨d,rfl,wF⟩:=ou Z;have w:∀{x:Nat},x<256->IntKind.u32.wrap (x:Int)=x:=fun h=>od (by omega) (by omega)
 rw[w qW,w qV,w wG,w wF,od (x:=(a:Int)*16777216) (by omega) (by omega),od (x:=(b:Int)*65536) (by omega) (by omega),od (x:=(c:Int)*256) (by omega) (by omega)]
 have e1:hH .u32 ((a:Int)*16777216) ((b:Int)*65536)=(((a*256+b)*2^16:Nat):Int):=by
  have:=yV (m:=a) (y:=b*65536) (k:=24) (by omega) (by omega)
  rw[show((a:Int)*16777216)=((a*2^24:Nat):Int) by omega,show((b:Int)*65536)=((b*65536:Nat):Int) by omega,this];omega
 have e2:hH .u32 (((a*256+b)*2^16:Nat):Int) ((c:Int)*256)=((((a*256+b)*256+c)*2^8:Nat):Int):=by
  have:=yV (m:=a*256+b) (y:=c*256) (k:=16) (by omega) (by omega)
  rw[show((c:Int)*256)=((c*256:Nat):Int) by omega,this];omega
 have bz:=yV (m:=(a*256+b)*256+c) (y:=d) (k:=8) (by omega) (by omega)
 rw[e1,e2,bz];unfold wd;omega
def gb(b:List Int)(i:Nat):Int:=b.getD i 0
def IK(x:Int):Int:=dh .u32 (dh .u32 (kf x 7) (kf x 18)) (x.fdiv 8)
def IJ(x:Int):Int:=dh .u32 (dh .u32 (kf x 17) (kf x 19)) (x.fdiv 1024)
def va(w:List Int)(i:Nat):Int:=IntKind.u32.wrap (IntKind.u32.wrap (IntKind.u32.wrap (gb w (i-16)+IK (gb w (i-15)))+gb w (i-7))+IJ (gb w (i-2)))
def cg(b:List Int):Nat->List Int
 |0=>[]
 |i+1=>cg b i++[bif decide (i<16) then wd (gb b (4*i)) (gb b (4*i+1)) (gb b (4*i+2)) (gb b (4*i+3)) else va (cg b i) i]
theorem nf(b:List Int):∀i,(cg b i).length=i
 |0=>rfl
 |i+1=>by simp[cg,nf b i]
theorem lE{b:List Int}{j:Nat}(h:j<b.length):b[j]? =some (gb b j):=by
 unfold gb;rw[List.getD_eq_getElem?_getD,List.getElem?_eq_getElem h];rfl
theorem uV{b:List Int}{j:Nat}(h:j<b.length):aU b (j:Int)=some (gb b j):=by rw[b6];exact lE h
theorem RX(x:Int):e6 .u32 x 3=some (x.fdiv 8):=rfl
theorem Rb(x:Int):e6 .u32 x 10=some (x.fdiv 1024):=rfl
theorem ain(x:Int):k6 .u32 x 24=some (IntKind.u32.wrap (x*16777216)):=rfl
theorem aio(x:Int):k6 .u32 x 16=some (IntKind.u32.wrap (x*65536)):=rfl
theorem u7(x:Int):k6 .u32 x 8=some (IntKind.u32.wrap (x*256)):=rfl
abbrev qO(b:List Int):Prop:=b.length=64/\∀x,x∈b->j3 x
theorem qO.o_{b:List Int}(h:qO b){j:Nat}(hj:j<64):j3 (gb b j):=by
 refine h.2 _ ?_
 have:=lE (b:=b) (j:=j) (by rw[h.1];exact hj)
 exact List.mem_of_getElem? this
theorem qQ{i:Nat}(h:i<=64)(j:Nat)(hj:j<=4):IntKind.i64.wrap (IntKind.i64.wrap ((4:Int)*(i:Int))+(j:Int))=((4*i+j:Nat):Int):=by
 rw[ed (n:=4*(i:Int)) (by omega) (by omega),ed (by omega) (by omega)];omega
theorem sW{i:Nat}(h:i<=64):IntKind.i64.wrap ((4:Int)*(i:Int))=((4*i:Nat):Int):=by
 rw[ed (n:=4*(i:Int)) (by omega) (by omega)];omega
theorem pb{i:Nat}{q:Int}(k:Nat)(e:q=(k:Int))(h:i<=64)(hk:k<=i):IntKind.i64.wrap ((i:Int)-q)=((i-k:Nat):Int):=by
 subst e;rw[ed (by omega) (by omega)];omega
theorem wp{i:Nat}(h:i<=64):IntKind.i64.wrap ((i:Int)+1)=((i+1:Nat):Int):=b0 (by unfold aq;omega)
theorem aaZ(b:List Int)(h:qO b):f276 ((b,()),())=some (((),()),(cg b 64,())):=by
 have aD:Fx ((b,((),((0:Int),()))),(([]:List Int),()))=some (((),()),(cg b 16,())):=by
  refine fH (g:=F0) (fun i=>((b,((),((i:Int),()))),(cg b i,()))) 16 (fun i hi=>?_) rfl 16 0 rfl
  have hl:decide ((i:Int)<16)=true:=by simp;omega
  have h0:=uV (b:=b) (j:=4*i) (by rw[h.1];omega)
  have h1:=uV (b:=b) (j:=4*i+1) (by rw[h.1];omega)
  have h2:=uV (b:=b) (j:=4*i+2) (by rw[h.1];omega)
  have h3:=uV (b:=b) (j:=4*i+3) (by rw[h.1];omega)
  have q1:IntKind.i64.wrap (((4*i:Nat):Int)+1)=((4*i+1:Nat):Int):=by have:=qQ (i:=i) (by omega) 1 (by omega);rwa[sW (by omega)] at this
  have q2:IntKind.i64.wrap (((4*i:Nat):Int)+2)=((4*i+2:Nat):Int):=by have:=qQ (i:=i) (by omega) 2 (by omega);rwa[sW (by omega)] at this
  have dr:IntKind.i64.wrap (((4*i:Nat):Int)+3)=((4*i+3:Nat):Int):=by have:=qQ (i:=i) (by omega) 3 (by omega);rwa[sW (by omega)] at this
  have hw:=aeB (h.o_ (j:=4*i) (by omega)) (h.o_ (j:=4*i+1) (by omega)) (h.o_ (j:=4*i+2) (by omega)) (h.o_ (j:=4*i+3) (by omega))
  have Z:decide (i<16)=true:=by simpa using hi
  simp only[F0,hl,cond_true,sW (i:=i) (by omega),q1,q2,dr,h0,h1,h2,h3,Option.bind_some,ain,aio,u7,hw,wp (i:=i) (by omega)]
  rw[dZ (by decide) (by rw[nf];unfold aq;simp;omega)]
  simp only[Option.bind_some,cg,Z,cond_true]
 have az:Ed (((),((16:Int),())),(cg b 16,()))=some (((),()),(cg b 64,())):=by
  refine fH (g:=Ew) (fun i=>(((),(((16+i:Nat):Int),())),(cg b (16+i),()))) 48 (fun i hi=>?_) rfl 48 0 rfl
  have hl:decide (((16+i:Nat):Int)<64)=true:=by simp;omega
  have hlen:=nf b (16+i);have Z:decide (16+i<16)=false:=by simp
  have t7:=fun x=>mf x 7 (by simp[eG]);have t18:=fun x=>mf x 18 (by simp[eG])
  have t17:=fun x=>mf x 17 (by simp[eG]);have t19:=fun x=>mf x 19 (by simp[eG])
  have i15:a6 (cg b (16+i)).length (IntKind.i64.wrap (((16+i:Nat):Int)-15))=some (16+i-15):=by rw[pb (i:=16+i) (q:=15) 15 rfl (by omega) (by omega)];exact fS (by rw[hlen];omega)
  have i2:a6 (cg b (16+i)).length (IntKind.i64.wrap (((16+i:Nat):Int)-2))=some (16+i-2):=by rw[pb (i:=16+i) (q:=2) 2 rfl (by omega) (by omega)];exact fS (by rw[hlen];omega)
  have i16:a6 (cg b (16+i)).length (IntKind.i64.wrap (((16+i:Nat):Int)-16))=some (16+i-16):=by rw[pb (i:=16+i) (q:=16) 16 rfl (by omega) (by omega)];exact fS (by rw[hlen];omega)
  have i7:a6 (cg b (16+i)).length (IntKind.i64.wrap (((16+i:Nat):Int)-7))=some (16+i-7):=by rw[pb (i:=16+i) (q:=7) 7 rfl (by omega) (by omega)];exact fS (by rw[hlen];omega)
  have g15:=lE (b:=cg b (16+i)) (j:=16+i-15) (by rw[hlen];omega)
  have g2:=lE (b:=cg b (16+i)) (j:=16+i-2) (by rw[hlen];omega)
  have g16:=lE (b:=cg b (16+i)) (j:=16+i-16) (by rw[hlen];omega)
  have g7:=lE (b:=cg b (16+i)) (j:=16+i-7) (by rw[hlen];omega)
  simp only[Ew,hl,cond_true,i15,i2,i16,i7,g15,g2,g16,g7,Option.bind_some,t7,t18,t17,t19,RX,Rb,wp (i:=16+i) (by omega)]
  rw[dZ (by decide) (by rw[hlen];unfold aq;simp;omega)]
  have hs:cg b (16+(i+1))=cg b (16+i)++[va (cg b (16+i)) (16+i)]:=by
   show cg b ((16+i)+1)=_;simp only[cg,Z,cond_false]
  simp only[Option.bind_some,hs,va,IK,IJ];rfl
 have hm:jx 4 (0:Int) (64:Int) (0:Int)=some ([]:List Int):=rfl;simp only[f276,hm,Option.bind_some,aD,az]
abbrev i277:Shape:=⟨[],[],2⟩
abbrev R_:Shape:=⟨[bc 0 3000000],[bb 3000000 .u32 0 0],2⟩
noncomputable def f277(a:i277.J):Option R_.J:=
 some (((),()),([(1116352408:Int),(1899447441:Int),(3049323471:Int),(3921009573:Int),(961987163:Int),(1508970993:Int),(2453635748:Int),(2870763221:Int),(3624381080:Int),(310598401:Int),(607225278:Int),(1426881987:Int),(1925078388:Int),(2162078206:Int),(2614888103:Int),(3248222580:Int),(3835390401:Int),(4022224774:Int),(264347078:Int),(604807628:Int),(770255983:Int),(1249150122:Int),(1555081692:Int),(1996064986:Int),(2554220882:Int),(2821834349:Int),(2952996808:Int),(3210313671:Int),(3336571891:Int),(3584528711:Int),(113926993:Int),(338241895:Int),(666307205:Int),(773529912:Int),(1294757372:Int),(1396182291:Int),(1695183700:Int),(1986661051:Int),(2177026350:Int),(2456956037:Int),(2730485921:Int),(2820302411:Int),(3259730800:Int),(3345764771:Int),(3516065817:Int),(3600352804:Int),(4094571909:Int),(275423344:Int),(430227734:Int),(506948616:Int),(659060556:Int),(883997877:Int),(958139571:Int),(1322822218:Int),(1537002063:Int),(1747873779:Int),(1955562222:Int),(2024104815:Int),(2227730452:Int),(2361852424:Int),(2428436474:Int),(2756734187:Int),(3204031479:Int),(3329325298:Int)]:List Int),())
noncomputable def T':aH:=aP aj Tryz.f277 i277 R_ [] f277
theorem ajl:aF U 277 T':=aS g0 Tryz.func277 (by kernel_rfl) ag (fun y=>by kernel_rfl) fun a=>by kernel_rfl
noncomputable abbrev alB:bh:=[(276,Ua),(277,T'),(278,H_)]
theorem Bg:a7 U (bg aj alB):=bf ⟨ajm,ajl,RI,⟨⟩⟩
abbrev wV:Shape:=⟨[aK 0 .u32,bc 5 3000320,bc 6 3000384,bc 7 3000448,ae 8,(11,.ak (.d (.int .u32))),(12,.ak (.d (.int .u32))),(13,.ak (.d (.int .u32))),ae 14],[bb 3000320 .u32 5 0,bb 3000384 .u32 6 0,bb 3000448 .u32 7 0],155⟩
abbrev Cy:List aO:=[(.exit 2,⟨[aK 0 .u32,bc 5 3000320,bc 6 3000384,bc 7 3000448,ae 8,(11,.ak (.d (.int .u32))),(12,.ak (.d (.int .u32))),(13,.ak (.d (.int .u32)))],[bb 3000320 .u32 5 0,bb 3000384 .u32 6 0,bb 3000448 .u32 7 0],155⟩)]
noncomputable def La(y:wV.J):bQ wV Cy:=
 bif(decide (y.1.2.2.2.2.2.2.2.2.1>(0:Int))) then
(a6 y.2.2.2.1.length (IntKind.i64.wrap (y.1.2.2.2.2.2.2.2.2.1-(1:Int)))).bind fun a=>
(y.2.2.2.1[a]?).bind fun b=>
(a6 y.2.2.2.1.length y.1.2.2.2.2.2.2.2.2.1).bind fun c=>
((y.2.2.2.1[c]?).bind fun q=>some b).bind fun d=>
 some (.inl ((y.1.1,(),(),(),y.1.2.2.2.2.1,y.1.2.2.2.2.2.1,y.1.2.2.2.2.2.2.1,y.1.2.2.2.2.2.2.2.1,(IntKind.i64.wrap (y.1.2.2.2.2.2.2.2.2.1-(1:Int))),()),y.2.1,y.2.2.1,(y.2.2.2.1.set c d),()))
else
 some (.inr ((y.1.1,(),(),(),y.1.2.2.2.2.1,y.1.2.2.2.2.2.1,y.1.2.2.2.2.2.2.1,y.1.2.2.2.2.2.2.2.1,()),y.2.1,y.2.2.1,y.2.2.2.1,()))
noncomputable def CA:wV.J->Option (ay Cy):=bx La
theorem ZG:aW U (an (c8 (an (codeOf Tryz.f257) 1 250)) 500 1025274) (a_ wV Cy CA):=bR Bg (by kernel_rfl) ag fun y=>by kernel_rfl
abbrev xS:Shape:=⟨[aK 0 .u32,bc 5 3000320,bc 6 3000384,bc 7 3000448,ae 8],[bb 3000320 .u32 5 0,bb 3000384 .u32 6 0,bb 3000448 .u32 7 0],155⟩
abbrev DQ:List aO:=[(.exit 0,⟨[aK 0 .u32,bc 7 3000448],[bb 3000448 .u32 7 0],155⟩)]
noncomputable def Ex(y:xS.J):bQ xS DQ:=
 bif(decide (y.1.2.2.2.2.1<(64:Int))) then
(a6 y.2.2.2.1.length (4:Int)).bind fun a=>
(y.2.2.2.1[a]?).bind fun b=>
(f278 ((b,(6:Int),()),())).bind fun c=>
(a6 y.2.2.2.1.length (4:Int)).bind fun d=>
(y.2.2.2.1[d]?).bind fun e=>
(f278 ((e,(11:Int),()),())).bind fun f=>
(a6 y.2.2.2.1.length (4:Int)).bind fun g=>
(y.2.2.2.1[g]?).bind fun h=>
(f278 ((h,(25:Int),()),())).bind fun i=>
(a6 y.2.2.2.1.length (4:Int)).bind fun j=>
(y.2.2.2.1[j]?).bind fun k=>
(a6 y.2.2.2.1.length (5:Int)).bind fun l=>
(y.2.2.2.1[l]?).bind fun m=>
(a6 y.2.2.2.1.length (4:Int)).bind fun n=>
(y.2.2.2.1[n]?).bind fun B=>
(a6 y.2.2.2.1.length (6:Int)).bind fun p=>
(y.2.2.2.1[p]?).bind fun r=>
(a6 y.2.2.2.1.length (7:Int)).bind fun s=>
(y.2.2.2.1[s]?).bind fun t=>
(a6 y.2.2.1.length y.1.2.2.2.2.1).bind fun u=>
(y.2.2.1[u]?).bind fun v=>
(a6 y.2.1.length y.1.2.2.2.2.1).bind fun w=>
(y.2.1[w]?).bind fun x=>
(a6 y.2.2.2.1.length (0:Int)).bind fun z=>
(y.2.2.2.1[z]?).bind fun A=>
(f278 ((A,(2:Int),()),())).bind fun bp=>
(a6 y.2.2.2.1.length (0:Int)).bind fun C=>
(y.2.2.2.1[C]?).bind fun aZ=>
(f278 ((aZ,(13:Int),()),())).bind fun E=>
(a6 y.2.2.2.1.length (0:Int)).bind fun aV=>
(y.2.2.2.1[aV]?).bind fun G=>
(f278 ((G,(22:Int),()),())).bind fun H=>
(a6 y.2.2.2.1.length (0:Int)).bind fun I=>
(y.2.2.2.1[I]?).bind fun eU=>
(a6 y.2.2.2.1.length (1:Int)).bind fun K=>
(y.2.2.2.1[K]?).bind fun L=>
(a6 y.2.2.2.1.length (0:Int)).bind fun e4=>
(y.2.2.2.1[e4]?).bind fun N=>
(a6 y.2.2.2.1.length (2:Int)).bind fun ass=>
(y.2.2.2.1[ass]?).bind fun P=>
(a6 y.2.2.2.1.length (1:Int)).bind fun Q=>
(y.2.2.2.1[Q]?).bind fun R=>
(a6 y.2.2.2.1.length (2:Int)).bind fun S=>
(y.2.2.2.1[S]?).bind fun T=>
(CA ((y.1.1,(),(),(),y.1.2.2.2.2.1,(IntKind.u32.wrap ((IntKind.u32.wrap ((IntKind.u32.wrap ((IntKind.u32.wrap (t+(dh .u32 (dh .u32 c.1.1 f.1.1) i.1.1)))+(dh .u32 (eu .u32 k m) (eu .u32 (dh .u32 4294967295 B) r))))+v))+x)),(dh .u32 (dh .u32 bp.1.1 E.1.1) H.1.1),(dh .u32 (dh .u32 (eu .u32 eU L) (eu .u32 N P)) (eu .u32 R T)),(7:Int),()),y.2.1,y.2.2.1,y.2.2.2.1,())).bind fun dL=>
(a6 dL.2.2.2.1.length (4:Int)).bind fun V=>
(dL.2.2.2.1[V]?).bind fun W=>
(a6 dL.2.2.2.1.length (4:Int)).bind fun X=>
((dL.2.2.2.1[X]?).bind fun q=>some (IntKind.u32.wrap (W+dL.1.2.2.2.2.2.1))).bind fun KV=>
(a6 (dL.2.2.2.1.set X KV).length (0:Int)).bind fun a0=>
(((dL.2.2.2.1.set X KV)[a0]?).bind fun q=>some (IntKind.u32.wrap ((IntKind.u32.wrap (dL.1.2.2.2.2.2.1+dL.1.2.2.2.2.2.2.1))+dL.1.2.2.2.2.2.2.2.1))).bind fun a1=>
 some (.inl ((dL.1.1,(),(),(),(IntKind.i64.wrap (dL.1.2.2.2.2.1+(1:Int))),()),dL.2.1,dL.2.2.1,((dL.2.2.2.1.set X KV).set a0 a1),()))
else
 some (.inr ((y.1.1,(),()),y.2.2.2.1,()))
noncomputable def Ee:xS.J->Option (ay DQ):=bx Ex
theorem adp:aW U (an (codeOf Tryz.f257) 1 250) (a_ xS DQ Ee):=bR Bg (by kernel_rfl) (a' ZG ag) fun y=>by kernel_rfl
abbrev xp:Shape:=⟨[aK 0 .u32,bc 7 3000448,bc 15 3000960,ae 16],[bb 3000448 .u32 7 0,bb 3000960 .u32 15 0],155⟩
abbrev C3:List aO:=[(.exit 4,⟨[bc 15 3000960],[bb 3000960 .u32 15 0],155⟩)]
noncomputable def M8(y:xp.J):bQ xp C3:=
 bif(decide (y.1.2.2.2.1<(8:Int))) then
(aU y.1.1 y.1.2.2.2.1).bind fun a=>
(a6 y.2.1.length y.1.2.2.2.1).bind fun b=>
(y.2.1[b]?).bind fun c=>
(cy 4 y.2.2.1 ([(IntKind.u32.wrap (a+c))]:List Int)).bind fun d=>
 some (.inl ((y.1.1,(),(),(IntKind.i64.wrap (y.1.2.2.2.1+(1:Int))),()),y.2.1,d,()))
else
 some (.inr (((),()),y.2.2.1,()))
noncomputable def Dn:xp.J->Option (ay C3):=bx M8
theorem abz:aW U (an (codeOf Tryz.f257) 1 1018) (a_ xp C3 Dn):=bR Bg (by kernel_rfl) ag fun y=>by kernel_rfl
abbrev i257:Shape:=⟨[aK 0 .u32,aK 1 .u8],[],155⟩
abbrev Sd:Shape:=⟨[bc 4 3000256],[bb 3000256 .u32 4 0],155⟩
noncomputable def f257(a:i257.J):Option Sd.J:=
(f276 ((a.1.2.1,()),())).bind fun b=>
(f277 ((),())).bind fun c=>
(cy 4 ([]:List Int) a.1.1).bind fun d=>
(Ee ((a.1.1,(),(),(),(0:Int),()),b.2.1,c.2.1,d,())).bind fun e=>
(Dn ((e.1.1,(),(),(0:Int),()),e.2.1,([]:List Int),())).bind fun f=>
 some (((),()),f.2.1,())
noncomputable def Ue:aH:=aP aj Tryz.f257 i257 Sd [] f257
theorem ajq:aF U 257 Ue:=aS Bg Tryz.func257 (by kernel_rfl) (a' adp (a' abz ag)) (fun y=>by kernel_rfl) fun a=>by kernel_rfl
structure cc where
 (a b c d e f g h:Int)
def cc.list(s:cc):List Int:=[s.a,s.b,s.c,s.d,s.e,s.f,s.g,s.h]
def JN(e:Int):Int:=dh .u32 (dh .u32 (kf e 6) (kf e 11)) (kf e 25)
def JO(a:Int):Int:=dh .u32 (dh .u32 (kf a 2) (kf a 13)) (kf a 22)
def JM(e f g:Int):Int:=dh .u32 (eu .u32 e f) (eu .u32 (dh .u32 4294967295 e) g)
def IQ(a b c:Int):Int:=dh .u32 (dh .u32 (eu .u32 a b) (eu .u32 a c)) (eu .u32 b c)
def Bs(s:cc)(k w:Int):Int:=IntKind.u32.wrap (IntKind.u32.wrap (IntKind.u32.wrap (IntKind.u32.wrap (s.h+JN s.e)+JM s.e s.f s.g)+k)+w)
def u9(k w:Int)(s:cc):cc:=⟨IntKind.u32.wrap (Bs s k w+IntKind.u32.wrap (JO s.a+IQ s.a s.b s.c)),s.a,s.b,s.c,IntKind.u32.wrap (s.d+Bs s k w),s.e,s.f,s.g⟩
def lV(h:cc)(w:List Int):Nat->cc
 |0=>h
 |i+1=>u9 (gb ii i) (gb w i) (lV h w i)
def A'(h s:cc):cc:=⟨IntKind.u32.wrap (h.a+s.a),IntKind.u32.wrap (h.b+s.b),IntKind.u32.wrap (h.c+s.c),IntKind.u32.wrap (h.d+s.d),IntKind.u32.wrap (h.e+s.e),IntKind.u32.wrap (h.f+s.f),IntKind.u32.wrap (h.g+s.g),IntKind.u32.wrap (h.h+s.h)⟩
def vq(h:cc)(b:List Int):cc:=A' h (lV h (cg b 64) 64)
theorem aeA(x y z:Int):IntKind.u32.wrap (IntKind.u32.wrap (x+y)+z)=IntKind.u32.wrap (x+IntKind.u32.wrap (y+z)):=by
 simp only[IntKind.wrap_u32];omega
theorem cc.i0(s:cc):a6 s.list.length 0=some 0:=rfl
theorem cc.i1(s:cc):a6 s.list.length 1=some 1:=rfl
theorem cc.i2(s:cc):a6 s.list.length 2=some 2:=rfl
theorem cc.i4(s:cc):a6 s.list.length 4=some 4:=rfl
theorem cc.i5(s:cc):a6 s.list.length 5=some 5:=rfl
theorem cc.i6(s:cc):a6 s.list.length 6=some 6:=rfl
theorem cc.i7(s:cc):a6 s.list.length 7=some 7:=rfl
theorem cc.g0(s:cc):s.list[0]? =some s.a:=rfl
theorem cc.g1(s:cc):s.list[1]? =some s.b:=rfl
theorem cc.g2(s:cc):s.list[2]? =some s.c:=rfl
theorem cc.g4(s:cc):s.list[4]? =some s.e:=rfl
theorem cc.g5(s:cc):s.list[5]? =some s.f:=rfl
theorem cc.g6(s:cc):s.list[6]? =some s.g:=rfl
theorem cc.g7(s:cc):s.list[7]? =some s.h:=rfl
def fZ(s:cc):Nat->List Int
 |0=>s.list
 |1=>[s.a,s.b,s.c,s.d,s.e,s.f,s.g,s.g]
 |2=>[s.a,s.b,s.c,s.d,s.e,s.f,s.f,s.g]
 |3=>[s.a,s.b,s.c,s.d,s.e,s.e,s.f,s.g]
 |4=>[s.a,s.b,s.c,s.d,s.d,s.e,s.f,s.g]
 |5=>[s.a,s.b,s.c,s.c,s.d,s.e,s.f,s.g]
 |6=>[s.a,s.b,s.b,s.c,s.d,s.e,s.f,s.g]
 |_=>[s.a,s.a,s.b,s.c,s.d,s.e,s.f,s.g]
theorem Fk:ii.length=64:=by decide
theorem aa1(h:cc)(b:List Int)(hb:qO b):f257 ((h.list,(b,())),())=some (((),()),((vq h b).list,())):=by
 have ln:=aaZ b hb;have t2:=fun x=>mf x 2 (by simp[eG]);have t6:=fun x=>mf x 6 (by simp[eG]);have t11:=fun x=>mf x 11 (by simp[eG])
 have t13:=fun x=>mf x 13 (by simp[eG]);have t22:=fun x=>mf x 22 (by simp[eG]);have t25:=fun x=>mf x 25 (by simp[eG])
 have fQ:∀(q:List Int) (i jf iK p3:Int) (w:List Int) (s:cc),CA ((q,((),((),((),(i,(jf,(iK,(p3,((7:Int),()))))))))),(w,(ii,(s.list,()))))=
   some ((q,((),((),((),(i,(jf,(iK,(p3,())))))))),(w,(ii,(([s.a,s.a,s.b,s.c,s.d,s.e,s.f,s.g]:List Int),())))):=by
  intro q i jf iK p3 w s;refine fH (g:=La) (fun j=>((q,((),((),((),(i,(jf,(iK,(p3,(((7-j:Nat):Int),()))))))))),(w,(ii,(fZ s j,()))))) 7 (fun j hj=>?_) rfl 7 0 rfl
  have:j=0\/j=1\/j=2\/j=3\/j=4\/j=5\/j=6:=by omega
  rcases this with rfl|rfl|rfl|rfl|rfl|rfl|rfl<;>rfl
 have bM:f277 ((),())=some (((),()),(ii,())):=rfl;have hc:cy 4 ([]:List Int) h.list=some h.list:=rfl;have aD:Ee ((h.list,((),((),((),((0:Int),()))))),(cg b 64,(ii,(h.list,()))))=some ((h.list,((),())),((lV h (cg b 64) 64).list,())):=by
  refine fH (g:=Ex) (fun i=>((h.list,((),((),((),((i:Int),()))))),(cg b 64,(ii,((lV h (cg b 64) i).list,()))))) 64 (fun i hi=>?_) rfl 64 0 rfl
  have hl:decide ((i:Int)<64)=true:=by simp;omega
  have i1:a6 ii.length (i:Int)=some i:=fS (by rw[Fk];exact hi)
  have g1:=lE (b:=ii) (j:=i) (by rw[Fk];exact hi)
  have i2:a6 (cg b 64).length (i:Int)=some i:=fS (by rw[nf];exact hi)
  have g2:=lE (b:=cg b 64) (j:=i) (by rw[nf];exact hi)
  have hr:lV h (cg b 64) (i+1)=u9 (gb ii i) (gb (cg b 64) i) (lV h (cg b 64) i):=rfl;generalize lV h (cg b 64) i=s at hr ⊢;simp only[Ex,hl,cond_true,cc.i0,cc.i1,cc.i2,cc.i4,cc.i5,cc.i6,cc.i7,cc.g0,cc.g1,cc.g2,cc.g4,cc.g5,cc.g6,cc.g7,i1,g1,i2,g2,Option.bind_some,t2,t6,t11,t13,t22,t25,fQ,wp (i:=i) (by omega),hr]
  have e:∀x y:Int,a6 ([s.a,s.a,s.b,s.c,s.d,s.e,s.f,s.g]:List Int).length 4=some 4/\([s.a,s.a,s.b,s.c,s.d,s.e,s.f,s.g]:List Int)[4]? =some s.d/\
   a6 (([s.a,s.a,s.b,s.c,s.d,s.e,s.f,s.g]:List Int).set 4 x).length 0=some 0/\(([s.a,s.a,s.b,s.c,s.d,s.e,s.f,s.g]:List Int).set 4 x)[0]? =some s.a:=fun x y=>⟨rfl,rfl,rfl,rfl⟩
  simp only[(e 0 0).1,(e 0 0).2.1,(e _ 0).2.2.1,(e _ 0).2.2.2,Option.bind_some,u9,Bs,JN,JO,JM,IQ,aeA];rfl
 have az:Dn ((h.list,((),((),((0:Int),())))),((lV h (cg b 64) 64).list,(([]:List Int),())))=some (((),()),((vq h b).list,())):=by
  unfold vq;generalize lV h (cg b 64) 64=s;refine fH (g:=M8) (fun i=>((h.list,((),((),((i:Int),())))),(s.list,((A' h s).list.take i,())))) 8 (fun i hi=>?_) rfl 8 0 rfl
  have:i=0\/i=1\/i=2\/i=3\/i=4\/i=5\/i=6\/i=7:=by omega
  rcases this with rfl|rfl|rfl|rfl|rfl|rfl|rfl|rfl<;>rfl
 simp only[f257,ln,bM,hc,Option.bind_some,aD,az]
noncomputable abbrev amw:bh:=[(171,UO)]
theorem sS:a7 U (bg aj amw):=bf ⟨z171,⟨⟩⟩
abbrev w8:Shape:=⟨[aK 1 .u8,ev 2 2 .u32,ev 4 4 .u32,ev 5 5 .u32,ae 6,ae 27,aK 36 .u8,ae 37,ae 38],[(2,.row .u32,.same),(4,.row .u32,.same),(5,.row .u32,.same)],208⟩
abbrev CN:List aO:=[(.exit 2,⟨[aK 1 .u8,ev 2 2 .u32,ev 4 4 .u32,ev 5 5 .u32,ae 27],[(2,.row .u32,.same),(4,.row .u32,.same),(5,.row .u32,.same)],208⟩)]
noncomputable def pk(y:w8.J):bQ w8 CN:=
 bif(decide (y.1.2.2.2.2.2.2.2.2.1<y.1.2.2.2.2.2.2.2.1)) then
(aU y.1.2.2.2.2.2.2.1 y.1.2.2.2.2.2.2.2.2.1).bind fun a=>
((long 64 y.2.2.2.1).bind fun q=>a6 q.length y.1.2.2.2.2.1).bind fun b=>
(y.2.2.2.1[b]?).bind fun c=>
(k6 .u32 c (8:Int)).bind fun d=>
((long 64 y.2.2.2.1).bind fun q=>a6 q.length y.1.2.2.2.2.1).bind fun e=>
((y.2.2.2.1[e]?).bind fun q=>some (hH .u32 d (IntKind.u32.wrap a))).bind fun f=>
 some (.inl ((y.1.1,(),(),(),y.1.2.2.2.2.1,y.1.2.2.2.2.2.1,y.1.2.2.2.2.2.2.1,y.1.2.2.2.2.2.2.2.1,(IntKind.i64.wrap (y.1.2.2.2.2.2.2.2.2.1+(1:Int))),()),y.2.1,y.2.2.1,(y.2.2.2.1.set e f),()))
else
 some (.inr ((y.1.1,(),(),(),y.1.2.2.2.2.2.1,()),y.2.1,y.2.2.1,y.2.2.2.1,()))
noncomputable def CQ:w8.J->Option (ay CN):=bx pk
theorem aaf:aW U (an (c8 (an (codeOf Tryz.f121) 1 58)) 116 14950) (a_ w8 CN CQ):=bR sS (by kernel_rfl) ag fun y=>by kernel_rfl
abbrev yO:Shape:=⟨[aK 1 .u8,ev 2 2 .u32,ev 4 4 .u32,ev 5 5 .u32,ae 27],[(2,.row .u32,.same),(4,.row .u32,.same),(5,.row .u32,.same)],208⟩
abbrev Fe:List aO:=[(.exit 0,⟨[ev 2 2 .u32,ev 4 4 .u32,ev 5 5 .u32],[(2,.row .u32,.same),(4,.row .u32,.same),(5,.row .u32,.same)],208⟩)]
noncomputable def F8(y:yO.J):bQ yO Fe:=
 bif(decide (y.1.2.2.2.2.1<(16:Int))) then
(br y.1.1 (IntKind.i64.wrap ((4:Int)*y.1.2.2.2.2.1)) (IntKind.i64.wrap ((IntKind.i64.wrap ((4:Int)*y.1.2.2.2.2.1))+(4:Int)))).bind fun a=>
(CQ ((y.1.1,(),(),(),y.1.2.2.2.2.1,y.1.2.2.2.2.1,a,(a.length:Int),(0:Int),()),y.2.1,y.2.2.1,y.2.2.2.1,())).bind fun b=>
 some (.inl ((b.1.1,(),(),(),(IntKind.i64.wrap (b.1.2.2.2.2.1+(1:Int))),()),b.2.1,b.2.2.1,b.2.2.2.1,()))
else
 some (.inr (((),(),(),()),y.2.1,y.2.2.1,y.2.2.2.1,()))
noncomputable def FN:yO.J->Option (ay Fe):=bx F8
theorem afC:aW U (an (codeOf Tryz.f121) 1 58) (a_ yO Fe FN):=bR sS (by kernel_rfl) (a' aaf ag) fun y=>by kernel_rfl
abbrev x2:Shape:=⟨[ev 2 2 .u32,ev 4 4 .u32,ev 5 5 .u32,ae 9],[(2,.row .u32,.same),(4,.row .u32,.same),(5,.row .u32,.same)],208⟩
abbrev DY:List aO:=[(.exit 4,⟨[ev 2 2 .u32,ev 4 4 .u32,ev 5 5 .u32],[(2,.row .u32,.same),(4,.row .u32,.same),(5,.row .u32,.same)],208⟩)]
noncomputable def EA(y:x2.J):bQ x2 DY:=
 bif(decide (y.1.2.2.2.1<(64:Int))) then
((long 64 y.2.2.2.1).bind fun q=>a6 q.length (IntKind.i64.wrap (y.1.2.2.2.1-(15:Int)))).bind fun a=>
(y.2.2.2.1[a]?).bind fun b=>
(f171 ((b,(7:Int),()),())).bind fun c=>
((long 64 y.2.2.2.1).bind fun q=>a6 q.length (IntKind.i64.wrap (y.1.2.2.2.1-(15:Int)))).bind fun d=>
(y.2.2.2.1[d]?).bind fun e=>
(f171 ((e,(18:Int),()),())).bind fun f=>
((long 64 y.2.2.2.1).bind fun q=>a6 q.length (IntKind.i64.wrap (y.1.2.2.2.1-(15:Int)))).bind fun g=>
(y.2.2.2.1[g]?).bind fun h=>
(e6 .u32 h (3:Int)).bind fun i=>
((long 64 y.2.2.2.1).bind fun q=>a6 q.length (IntKind.i64.wrap (y.1.2.2.2.1-(2:Int)))).bind fun j=>
(y.2.2.2.1[j]?).bind fun k=>
(f171 ((k,(17:Int),()),())).bind fun l=>
((long 64 y.2.2.2.1).bind fun q=>a6 q.length (IntKind.i64.wrap (y.1.2.2.2.1-(2:Int)))).bind fun m=>
(y.2.2.2.1[m]?).bind fun n=>
(f171 ((n,(19:Int),()),())).bind fun B=>
((long 64 y.2.2.2.1).bind fun q=>a6 q.length (IntKind.i64.wrap (y.1.2.2.2.1-(2:Int)))).bind fun p=>
(y.2.2.2.1[p]?).bind fun r=>
(e6 .u32 r (10:Int)).bind fun s=>
((long 64 y.2.2.2.1).bind fun q=>a6 q.length (IntKind.i64.wrap (y.1.2.2.2.1-(16:Int)))).bind fun t=>
(y.2.2.2.1[t]?).bind fun u=>
((long 64 y.2.2.2.1).bind fun q=>a6 q.length (IntKind.i64.wrap (y.1.2.2.2.1-(7:Int)))).bind fun v=>
(y.2.2.2.1[v]?).bind fun w=>
((long 64 y.2.2.2.1).bind fun q=>a6 q.length y.1.2.2.2.1).bind fun x=>
((y.2.2.2.1[x]?).bind fun q=>some (IntKind.u32.wrap ((IntKind.u32.wrap ((IntKind.u32.wrap (u+(dh .u32 (dh .u32 c.1.1 f.1.1) i)))+w))+(dh .u32 (dh .u32 l.1.1 B.1.1) s)))).bind fun z=>
 some (.inl (((),(),(),(IntKind.i64.wrap (y.1.2.2.2.1+(1:Int))),()),y.2.1,y.2.2.1,(y.2.2.2.1.set x z),()))
else
 some (.inr (((),(),(),()),y.2.1,y.2.2.1,y.2.2.2.1,()))
noncomputable def Em:x2.J->Option (ay DY):=bx EA
theorem adE:aW U (an (codeOf Tryz.f121) 1 122) (a_ x2 DY Em):=bR sS (by kernel_rfl) ag fun y=>by kernel_rfl
abbrev xx:Shape:=⟨[ev 2 2 .u32,ev 4 4 .u32,ev 5 5 .u32,(12,.ak (.d (.int .u32))),(13,.ak (.d (.int .u32))),(14,.ak (.d (.int .u32))),(15,.ak (.d (.int .u32))),(16,.ak (.d (.int .u32))),(17,.ak (.d (.int .u32))),(18,.ak (.d (.int .u32))),(19,.ak (.d (.int .u32))),ae 122],[(2,.row .u32,.same),(4,.row .u32,.same),(5,.row .u32,.same)],208⟩
abbrev C_:List aO:=[(.exit 6,⟨[ev 2 2 .u32,ev 4 4 .u32,(12,.ak (.d (.int .u32))),(13,.ak (.d (.int .u32))),(14,.ak (.d (.int .u32))),(15,.ak (.d (.int .u32))),(16,.ak (.d (.int .u32))),(17,.ak (.d (.int .u32))),(18,.ak (.d (.int .u32))),(19,.ak (.d (.int .u32)))],[(2,.row .u32,.same),(4,.row .u32,.same)],208⟩)]
noncomputable def xH(y:xx.J):bQ xx C_:=
 bif(decide (y.1.2.2.2.2.2.2.2.2.2.2.2.1<(64:Int))) then
(f171 ((y.1.2.2.2.2.2.2.2.1,(6:Int),()),())).bind fun a=>
(f171 ((y.1.2.2.2.2.2.2.2.1,(11:Int),()),())).bind fun b=>
(f171 ((y.1.2.2.2.2.2.2.2.1,(25:Int),()),())).bind fun c=>
(aU ii y.1.2.2.2.2.2.2.2.2.2.2.2.1).bind fun d=>
((long 64 y.2.2.2.1).bind fun q=>a6 q.length y.1.2.2.2.2.2.2.2.2.2.2.2.1).bind fun e=>
(y.2.2.2.1[e]?).bind fun f=>
(f171 ((y.1.2.2.2.1,(2:Int),()),())).bind fun g=>
(f171 ((y.1.2.2.2.1,(13:Int),()),())).bind fun h=>
(f171 ((y.1.2.2.2.1,(22:Int),()),())).bind fun i=>
 some (.inl (((),(),(),(IntKind.u32.wrap ((IntKind.u32.wrap ((IntKind.u32.wrap ((IntKind.u32.wrap ((IntKind.u32.wrap (y.1.2.2.2.2.2.2.2.2.2.2.1+(dh .u32 (dh .u32 a.1.1 b.1.1) c.1.1)))+(dh .u32 (eu .u32 y.1.2.2.2.2.2.2.2.1 y.1.2.2.2.2.2.2.2.2.1) (eu .u32 (dh .u32 4294967295 y.1.2.2.2.2.2.2.2.1) y.1.2.2.2.2.2.2.2.2.2.1))))+d))+f))+(IntKind.u32.wrap ((dh .u32 (dh .u32 g.1.1 h.1.1) i.1.1)+(dh .u32 (dh .u32 (eu .u32 y.1.2.2.2.1 y.1.2.2.2.2.1) (eu .u32 y.1.2.2.2.1 y.1.2.2.2.2.2.1)) (eu .u32 y.1.2.2.2.2.1 y.1.2.2.2.2.2.1)))))),y.1.2.2.2.1,y.1.2.2.2.2.1,y.1.2.2.2.2.2.1,(IntKind.u32.wrap (y.1.2.2.2.2.2.2.1+(IntKind.u32.wrap ((IntKind.u32.wrap ((IntKind.u32.wrap ((IntKind.u32.wrap (y.1.2.2.2.2.2.2.2.2.2.2.1+(dh .u32 (dh .u32 a.1.1 b.1.1) c.1.1)))+(dh .u32 (eu .u32 y.1.2.2.2.2.2.2.2.1 y.1.2.2.2.2.2.2.2.2.1) (eu .u32 (dh .u32 4294967295 y.1.2.2.2.2.2.2.2.1) y.1.2.2.2.2.2.2.2.2.2.1))))+d))+f)))),y.1.2.2.2.2.2.2.2.1,y.1.2.2.2.2.2.2.2.2.1,y.1.2.2.2.2.2.2.2.2.2.1,(IntKind.i64.wrap (y.1.2.2.2.2.2.2.2.2.2.2.2.1+(1:Int))),()),y.2.1,y.2.2.1,y.2.2.2.1,()))
else
 some (.inr (((),(),y.1.2.2.2.1,y.1.2.2.2.2.1,y.1.2.2.2.2.2.1,y.1.2.2.2.2.2.2.1,y.1.2.2.2.2.2.2.2.1,y.1.2.2.2.2.2.2.2.2.1,y.1.2.2.2.2.2.2.2.2.2.1,y.1.2.2.2.2.2.2.2.2.2.2.1,()),y.2.1,y.2.2.1,()))
noncomputable def Dr:xx.J->Option (ay C_):=bx xH
theorem abP:aW U (an (codeOf Tryz.f121) 1 1018) (a_ xx C_ Dr):=bR sS (by kernel_rfl) ag fun y=>by kernel_rfl
abbrev xw:Shape:=⟨[ev 2 2 .u32,ev 4 4 .u32,cB 195 [.d (.int .u32),.d (.int .u32),.d (.int .u32),.d (.int .u32),.d (.int .u32),.d (.int .u32),.d (.int .u32),.d (.int .u32)],ae 196],[(2,.row .u32,.same),(4,.row .u32,.same)],208⟩
abbrev C9:List aO:=[(.exit 8,⟨[ev 2 2 .u32,ev 4 4 .u32],[(2,.row .u32,.same),(4,.row .u32,.same)],208⟩)]
noncomputable def M9(y:xw.J):bQ xw C9:=
 bif(decide (y.1.2.2.2.1<(8:Int))) then
(aU ([y.1.2.2.1.1,y.1.2.2.1.2.1,y.1.2.2.1.2.2.1,y.1.2.2.1.2.2.2.1,y.1.2.2.1.2.2.2.2.1,y.1.2.2.1.2.2.2.2.2.1,y.1.2.2.1.2.2.2.2.2.2.1,y.1.2.2.1.2.2.2.2.2.2.2.1]:List Int) y.1.2.2.2.1).bind fun a=>
((long 8 y.2.1).bind fun q=>a6 q.length y.1.2.2.2.1).bind fun b=>
(y.2.1[b]?).bind fun c=>
((long 8 y.2.1).bind fun q=>a6 q.length y.1.2.2.2.1).bind fun d=>
((y.2.1[d]?).bind fun q=>some (IntKind.u32.wrap (c+a))).bind fun e=>
 some (.inl (((),(),(y.1.2.2.1.1,y.1.2.2.1.2.1,y.1.2.2.1.2.2.1,y.1.2.2.1.2.2.2.1,y.1.2.2.1.2.2.2.2.1,y.1.2.2.1.2.2.2.2.2.1,y.1.2.2.1.2.2.2.2.2.2.1,y.1.2.2.1.2.2.2.2.2.2.2.1,()),(IntKind.i64.wrap (y.1.2.2.2.1+(1:Int))),()),(y.2.1.set d e),y.2.2.1,()))
else
 some (.inr (((),(),()),y.2.1,y.2.2.1,()))
noncomputable def Dq:xw.J->Option (ay C9):=bx M9
theorem abO:aW U (an (codeOf Tryz.f121) 1 2042) (a_ xw C9 Dq):=bR sS (by kernel_rfl) ag fun y=>by kernel_rfl
abbrev i121:Shape:=⟨[cB 0 [.d (.int .u32),.d (.int .u32),.d (.int .u32),.d (.int .u32),.d (.int .u32),.d (.int .u32),.d (.int .u32),.d (.int .u32)],aK 1 .u8],[],208⟩
abbrev Tn:Shape:=⟨[ev 4 4 .u32],[(4,.qa .u32 8,.same)],208⟩
noncomputable def f121(a:i121.J):Option Tn.J:=
(FN ((a.1.2.1,(),(),(),(0:Int),()),([a.1.1.1,a.1.1.2.1,a.1.1.2.2.1,a.1.1.2.2.2.1,a.1.1.2.2.2.2.1,a.1.1.2.2.2.2.2.1,a.1.1.2.2.2.2.2.2.1,a.1.1.2.2.2.2.2.2.2.1]:List Int),(List.replicate 8 (0:Int)),(List.replicate 64 (0:Int)),())).bind fun b=>
(Em (((),(),(),(16:Int),()),b.2.1,b.2.2.1,b.2.2.2.1,())).bind fun c=>
((long 8 c.2.1).bind fun q=>a6 q.length (0:Int)).bind fun d=>
(c.2.1[d]?).bind fun e=>
((long 8 c.2.1).bind fun q=>a6 q.length (1:Int)).bind fun f=>
(c.2.1[f]?).bind fun g=>
((long 8 c.2.1).bind fun q=>a6 q.length (2:Int)).bind fun h=>
(c.2.1[h]?).bind fun i=>
((long 8 c.2.1).bind fun q=>a6 q.length (3:Int)).bind fun j=>
(c.2.1[j]?).bind fun k=>
((long 8 c.2.1).bind fun q=>a6 q.length (4:Int)).bind fun l=>
(c.2.1[l]?).bind fun m=>
((long 8 c.2.1).bind fun q=>a6 q.length (5:Int)).bind fun n=>
(c.2.1[n]?).bind fun B=>
((long 8 c.2.1).bind fun q=>a6 q.length (6:Int)).bind fun p=>
(c.2.1[p]?).bind fun r=>
((long 8 c.2.1).bind fun q=>a6 q.length (7:Int)).bind fun s=>
(c.2.1[s]?).bind fun t=>
(Dr (((),(),(),e,g,i,k,m,B,r,t,(0:Int),()),c.2.1,c.2.2.1,c.2.2.2.1,())).bind fun u=>
(Dq (((),(),(u.1.2.2.1,u.1.2.2.2.1,u.1.2.2.2.2.1,u.1.2.2.2.2.2.1,u.1.2.2.2.2.2.2.1,u.1.2.2.2.2.2.2.2.1,u.1.2.2.2.2.2.2.2.2.1,u.1.2.2.2.2.2.2.2.2.2.1,()),(0:Int),()),u.2.1,u.2.2.1,())).bind fun v=>
(long 8 v.2.1).bind fun w=>
(long 8 v.2.2.1).bind fun x=>
((long 8 ([(w.getD 0 (0:Int)),(w.getD 1 (0:Int)),(w.getD 2 (0:Int)),(w.getD 3 (0:Int)),(w.getD 4 (0:Int)),(w.getD 5 (0:Int)),(w.getD 6 (0:Int)),(w.getD 7 (0:Int))]:List Int)).bind fun q=>some (q,())).bind fun z=>some (((),()),z)
noncomputable def Vg:aH:=aP aj Tryz.f121 i121 Tn [] f121
theorem aj7:aF U 121 Vg:=aS sS Tryz.func121 (by kernel_rfl) (a' afC (a' adE (a' abP (a' abO ag)))) (fun y=>by kernel_rfl) fun a=>by kernel_rfl
def fP(ws:List Int)(v:Int):List Int:=ws++v::List.replicate (63-ws.length) 0
def j2(ws:List Int):List Int:=ws++List.replicate (64-ws.length) 0
theorem Rz{ws:List Int}(h:ws.length<64):j2 ws=fP ws 0:=by
 unfold j2 fP;rw[show 64-ws.length=(63-ws.length)+1 by omega];rfl
theorem Q9{ws:List Int}(h:ws.length<64)(v:Int):fP ws v=j2 (ws++[v]):=by
 unfold j2 fP;rw[List.length_append,show 64-(ws.length+[v].length)=63-ws.length from by show 64-(ws.length+1)=_;omega,List.append_assoc]
 rfl
theorem PL{ws:List Int}(h:ws.length<64)(v:Int):(fP ws v).length=64:=by unfold fP;simp;omega
theorem yW{aB:Type}{n:Nat}{xs:List aB}(h:xs.length=n):long n xs=some xs:=by unfold long;rw[if_pos h]
theorem PM{ws:List Int}(h:ws.length<64)(v:Int){k:Nat}(hk:k<64):((long 64 (fP ws v)).bind fun q=>a6 q.length (k:Int))=some k:=by
 rw[yW (PL h v)];exact fS (by rw[PL h];exact hk)
theorem uB(ws:List Int)(v:Int):(fP ws v)[ws.length]? =some v:=by unfold fP;rw[List.getElem?_append_right (Nat.le_refl _)];simp
theorem zu{ws:List Int}{v:Int}{k:Nat}(h:k<ws.length):(fP ws v)[k]? =some (gb ws k):=by
 unfold fP;rw[List.getElem?_append_left h];exact lE h
theorem uA(ws:List Int)(v u:Int):(fP ws v).set ws.length u=fP ws u:=by unfold fP;rw[List.set_append_right _ _ (Nat.le_refl _)];simp
theorem aip(b:List Int):∀(ws:List Int) (i:Nat) (c0 c1 c2 c3:Int) (r0 r1:List Int),ws.length=i->i<64->
  CQ ((b,((),((),((),((i:Int),((i:Int),(([c0,c1,c2,c3]:List Int),((([c0,c1,c2,c3]:List Int).length:Int),((0:Int),()))))))))),(r0,(r1,(fP ws 0,()))))=
  some ((b,((),((),((),((i:Int),()))))),(r0,(r1,(fP ws (gI (gI (gI (gI 0 c0) c1) c2) c3),())))):=by
 intro ws i c0 c1 c2 c3 r0 r1 hw hi;subst hw;refine fH (g:=pk) (fun j=>((b,((),((),((),((ws.length:Int),((ws.length:Int),(([c0,c1,c2,c3]:List Int),((([c0,c1,c2,c3]:List Int).length:Int),((j:Int),()))))))))),
  (r0,(r1,(fP ws (match j with|0=>0|1=>gI 0 c0|2=>gI (gI 0 c0) c1|3=>gI (gI (gI 0 c0) c1) c2|_=>gI (gI (gI (gI 0 c0) c1) c2) c3),()))))) 4 (fun j hj=>?_) ?_ 4 0 rfl
 ·have hx:∀v:Int,((long 64 (fP ws v)).bind fun q=>a6 q.length (ws.length:Int))=some ws.length:=fun v=>PM hi v hi
  have:j=0\/j=1\/j=2\/j=3:=by omega
  have n0:IntKind.i64.wrap (((0:Nat):Int)+1)=((0+1:Nat):Int):=rfl;have n1:IntKind.i64.wrap (((1:Nat):Int)+1)=((1+1:Nat):Int):=rfl;have n2:IntKind.i64.wrap (((2:Nat):Int)+1)=((2+1:Nat):Int):=rfl;have io:IntKind.i64.wrap (((3:Nat):Int)+1)=((3+1:Nat):Int):=rfl;have c:∀k:Nat,k<4->decide (((k:Nat):Int)<(([c0,c1,c2,c3]:List Int).length:Int))=true:=fun k hk=>by simp;omega
  have e0:aU ([c0,c1,c2,c3]:List Int) ((0:Nat):Int)=some c0:=rfl;have dV:aU ([c0,c1,c2,c3]:List Int) ((1:Nat):Int)=some c1:=rfl;have fE:aU ([c0,c1,c2,c3]:List Int) ((2:Nat):Int)=some c2:=rfl;have je:aU ([c0,c1,c2,c3]:List Int) ((3:Nat):Int)=some c3:=rfl;rcases this with rfl|rfl|rfl|rfl
  ·simp only[pk,c 0 (by omega),cond_true,hx,uB,uA,Option.bind_some,u7,n0,e0];rfl
  ·simp only[pk,c 1 (by omega),cond_true,hx,uB,uA,Option.bind_some,u7,n1,dV];rfl
  ·simp only[pk,c 2 (by omega),cond_true,hx,uB,uA,Option.bind_some,u7,n2,fE];rfl
  ·simp only[pk,c 3 (by omega),cond_true,hx,uB,uA,Option.bind_some,u7,io,je];rfl
 ·have:decide (((4:Nat):Int)<(([c0,c1,c2,c3]:List Int).length:Int))=false:=rfl;simp only[pk,this,cond_false]
theorem ait(b:List Int)(hb:qO b):∀r0 r1:List Int,FN ((b,((),((),((),((0:Int),()))))),(r0,(r1,(List.replicate 64 (0:Int),()))))=some (((),((),((),()))),(r0,(r1,(j2 (cg b 16),())))):=by
 intro r0 r1;refine fH (g:=F8) (fun i=>((b,((),((),((),((i:Int),()))))),(r0,(r1,(j2 (cg b i),()))))) 16 (fun i hi=>?_) rfl 16 0 rfl
 have hl:decide ((i:Int)<16)=true:=by simp;omega
 have hlen:=nf b i;have Z:decide (i<16)=true:=by simpa using hi
 have lm:IntKind.i64.wrap (((4*i:Nat):Int)+4)=((4*i+4:Nat):Int):=by have:=qQ (i:=i) (by omega) 4 (by omega);rwa[sW (by omega)] at this
 have hs:br b ((4*i:Nat):Int) ((4*i+4:Nat):Int)=some [gb b (4*i),gb b (4*i+1),gb b (4*i+2),gb b (4*i+3)]:=by
  rw[px (by omega) (by rw[hb.1];omega)]
  congr 1
  apply List.ext_getElem?;intro j;rw[List.getElem?_drop,List.getElem?_take];by_cases hj:j<4
  ·rw[if_pos (by omega),lE (by rw[hb.1];omega)]
   have:j=0\/j=1\/j=2\/j=3:=by omega
   rcases this with rfl|rfl|rfl|rfl<;>rfl
  ·rw[if_neg (by omega)]
   rw[List.getElem?_eq_none (by simp;omega)]
 have hw:=aeC (hb.o_ (j:=4*i) (by omega)) (hb.o_ (j:=4*i+1) (by omega)) (hb.o_ (j:=4*i+2) (by omega)) (hb.o_ (j:=4*i+3) (by omega))
 have BR:=aip b (cg b i) i (gb b (4*i)) (gb b (4*i+1)) (gb b (4*i+2)) (gb b (4*i+3)) r0 r1 hlen (by omega)
 rw[hw] at BR;have hf:=Rz (ws:=cg b i) (by omega)
 have hn:j2 (cg b (i+1))=fP (cg b i) (wd (gb b (4*i)) (gb b (4*i+1)) (gb b (4*i+2)) (gb b (4*i+3))):=by rw[Q9 (by omega)];simp only[cg,Z,cond_true]
 simp only[F8,hl,cond_true,sW (i:=i) (by omega),lm,hs,Option.bind_some,hf,BR,hn,wp (i:=i) (by omega)]
theorem ais(b:List Int):∀r0 r1:List Int,Em (((),((),((),((16:Int),())))),(r0,(r1,(j2 (cg b 16),()))))=some (((),((),((),()))),(r0,(r1,(j2 (cg b 64),())))):=by
 have t2:=fun x=>g_ x 2 (by simp[eG]);have t6:=fun x=>g_ x 6 (by simp[eG]);have t11:=fun x=>g_ x 11 (by simp[eG])
 have t13:=fun x=>g_ x 13 (by simp[eG]);have t22:=fun x=>g_ x 22 (by simp[eG]);have t25:=fun x=>g_ x 25 (by simp[eG])
 have t7:=fun x=>g_ x 7 (by simp[eG]);have t18:=fun x=>g_ x 18 (by simp[eG]);have t17:=fun x=>g_ x 17 (by simp[eG]);have t19:=fun x=>g_ x 19 (by simp[eG])
 intro r0 r1;refine fH (g:=EA) (fun i=>(((),((),((),(((16+i:Nat):Int),())))),(r0,(r1,(j2 (cg b (16+i)),()))))) 48 (fun i hi=>?_) rfl 48 0 rfl
 have hl:decide (((16+i:Nat):Int)<64)=true:=by simp;omega
 have hlen:=nf b (16+i);have Z:decide (16+i<16)=false:=by simp
 have hf:=Rz (ws:=cg b (16+i)) (by omega)
 have hs:j2 (cg b (16+(i+1)))=fP (cg b (16+i)) (va (cg b (16+i)) (16+i)):=by
  show j2 (cg b ((16+i)+1))=_;rw[Q9 (by omega)];simp only[cg,Z,cond_false]
 have apZ:=pb (i:=16+i) (q:=15) 15 rfl (by omega) (by omega)
 have e2:=pb (i:=16+i) (q:=2) 2 rfl (by omega) (by omega)
 have apY:=pb (i:=16+i) (q:=16) 16 rfl (by omega) (by omega)
 have wL:=pb (i:=16+i) (q:=7) 7 rfl (by omega) (by omega)
 have hx:∀k:Nat,k<64->((long 64 (fP (cg b (16+i)) 0)).bind fun q=>a6 q.length (k:Int))=some k:=fun k hk=>PM (by omega) _ hk
 have g15:=zu (ws:=cg b (16+i)) (v:=0) (k:=16+i-15) (by omega)
 have g2:=zu (ws:=cg b (16+i)) (v:=0) (k:=16+i-2) (by omega)
 have g16:=zu (ws:=cg b (16+i)) (v:=0) (k:=16+i-16) (by omega)
 have g7:=zu (ws:=cg b (16+i)) (v:=0) (k:=16+i-7) (by omega)
 have kE:(fP (cg b (16+i)) 0)[16+i]? =some 0:=by have:=uB (cg b (16+i)) 0;rwa[hlen] at this
 have gs:∀u,(fP (cg b (16+i)) 0).set (16+i) u=fP (cg b (16+i)) u:=fun u=>by have:=uA (cg b (16+i)) 0 u;rwa[hlen] at this
 simp only[EA,hl,cond_true,hf,apZ,e2,apY,wL,hx (16+i-15) (by omega),hx (16+i-2) (by omega),hx (16+i-16) (by omega),hx (16+i-7) (by omega),hx (16+i) (by omega),g15,g2,g16,g7,kE,gs,Option.bind_some,t7,t18,t17,t19,RX,Rb,wp (i:=16+i) (by omega),hs,va,IK,IJ]
 rfl
theorem air(R:Nat->cc)(W:List Int)(hW:W.length=64)(hR:∀i,R (i+1)=u9 (gb ii i) (gb W i) (R i))(r0 r1:List Int):Dr (((),((),((),((R 0).a,((R 0).b,((R 0).c,((R 0).d,((R 0).e,((R 0).f,((R 0).g,((R 0).h,((0:Int),())))))))))))),(r0,(r1,(W,()))))=
  some (((),((),((R 64).a,((R 64).b,((R 64).c,((R 64).d,((R 64).e,((R 64).f,((R 64).g,((R 64).h,())))))))))),(r0,(r1,()))):=by
 have t2:=fun x=>g_ x 2 (by simp[eG]);have t6:=fun x=>g_ x 6 (by simp[eG]);have t11:=fun x=>g_ x 11 (by simp[eG])
 have t13:=fun x=>g_ x 13 (by simp[eG]);have t22:=fun x=>g_ x 22 (by simp[eG]);have t25:=fun x=>g_ x 25 (by simp[eG])
 have t7:=fun x=>g_ x 7 (by simp[eG]);have t18:=fun x=>g_ x 18 (by simp[eG]);have t17:=fun x=>g_ x 17 (by simp[eG]);have t19:=fun x=>g_ x 19 (by simp[eG])
 refine fH (g:=xH) (fun i=>(((),((),((),((R i).a,((R i).b,((R i).c,((R i).d,((R i).e,((R i).f,((R i).g,((R i).h,((i:Int),())))))))))))),(r0,(r1,(W,()))))) 64 (fun i hi=>?_) ?_ 64 0 rfl
 ·have hl:decide ((i:Int)<64)=true:=by simp;omega
  have g1:=uV (b:=ii) (j:=i) (by rw[Fk];exact hi)
  have hx:((long 64 W).bind fun q=>a6 q.length (i:Int))=some i:=by rw[yW hW];exact fS (by rw[hW];exact hi)
  have g2:=lE (b:=W) (j:=i) (by rw[hW];exact hi)
  rw[hR i];generalize R i=s;simp only[xH,hl,cond_true,g1,hx,g2,Option.bind_some,t2,t6,t11,t13,t22,t25,wp (i:=i) (by omega),u9,Bs,JN,JO,JM,IQ]
 ·have:decide (((64:Nat):Int)<64)=false:=rfl;simp only[xH,this,cond_false]
theorem aiq(h:cc):∀(s:cc) (r1:List Int),Dq (((),((),((s.a,(s.b,(s.c,(s.d,(s.e,(s.f,(s.g,(s.h,())))))))),((0:Int),())))),(h.list,(r1,())))=some (((),((),())),((A' h s).list,(r1,()))):=by
 intro s r1;refine fH (g:=M9) (fun i=>(((),((),((s.a,(s.b,(s.c,(s.d,(s.e,(s.f,(s.g,(s.h,())))))))),((i:Int),())))),((A' h s).list.take i++h.list.drop i,(r1,())))) 8 (fun i hi=>?_) rfl 8 0 rfl
 have:i=0\/i=1\/i=2\/i=3\/i=4\/i=5\/i=6\/i=7:=by omega
 rcases this with rfl|rfl|rfl|rfl|rfl|rfl|rfl|rfl<;>(show _=_;kernel_rfl)
theorem _Q(h:cc)(b:List Int)(hb:qO b):f121 (((h.a,(h.b,(h.c,(h.d,(h.e,(h.f,(h.g,(h.h,())))))))),(b,())),())=some (((),()),((vq h b).list,())):=by
 have aD:=ait b hb;have az:=ais b;have o7:j2 (cg b 64)=cg b 64:=by unfold j2;rw[nf];simp
 have bD:=air (lV h (cg b 64)) (cg b 64) (nf b 64) (fun _=>rfl)
 have e1:(lV h (cg b 64) 0)=h:=rfl;rw[e1] at bD;have cQ:=aiq h;have dW:∀s:cc,s.list.length=8:=fun s=>rfl
 have hx:∀k:Nat,k<8->((long 8 h.list).bind fun q=>a6 q.length (k:Int))=some k:=fun k hk=>by rw[yW (dW h)];exact fS (by rw[dW];exact hk)
 have z0:=hx 0 (by omega);have fD:=hx 1 (by omega);have z2:=hx 2 (by omega);have z3:=hx 3 (by omega)
 have z4:=hx 4 (by omega);have z5:=hx 5 (by omega);have X9:=hx 6 (by omega);have Cb:=hx 7 (by omega)
 have eS:([h.a,h.b,h.c,h.d,h.e,h.f,h.g,h.h]:List Int)=h.list:=rfl;have dq:h.list[0]? =some h.a:=rfl;have eB:h.list[1]? =some h.b:=rfl;have fe:h.list[2]? =some h.c:=rfl;have l':h.list[3]? =some h.d:=rfl;have J8:h.list[4]? =some h.e:=rfl;have ww:h.list[5]? =some h.f:=rfl;have J7:h.list[6]? =some h.g:=rfl;have J6:h.list[7]? =some h.h:=rfl;simp only[Int.cast_ofNat_Int,Int.natCast_zero] at z0 fD z2 z3 z4 z5 X9 Cb;simp only[f121,eS,aD,az,o7,Option.bind_some,z0,fD,z2,z3,z4,z5,X9,Cb,dq,eB,fe,l',J8,ww,J7,J6,bD,cQ];rw[yW (dW _)];rfl
abbrev yq:Shape:=⟨[ao 0,bc 3 3000192],[bb 3000192 .u8 3 0],33⟩
abbrev EU:List aO:=[(.exit 0,⟨[ao 0,bc 3 3000192],[bb 3000192 .u8 3 0],33⟩)]
noncomputable def y3(y:yq.J):bQ yq EU:=
(lM (y.2.1.length:Int) (64:Int)).bind fun a=>
 bif(a !=(56:Int)) then
(cy 1 y.2.1 ([(0:Int)]:List Int)).bind fun b=>
 some (.inl ((y.1.1,(),()),b,()))
else
 some (.inr ((y.1.1,(),()),y.2.1,()))
noncomputable def Fz:yq.J->Option (ay EU):=bx y3
theorem ae4:aW U (an (codeOf Tryz.f256) 1 28) (a_ yq EU Fz):=bR g0 (by kernel_rfl) ag fun y=>by kernel_rfl
abbrev xT:Shape:=⟨[bc 3 3000192,ae 4,ae 5],[bb 3000192 .u8 3 0],33⟩
abbrev DR:List aO:=[(.exit 2,⟨[bc 3 3000192],[bb 3000192 .u8 3 0],33⟩)]
noncomputable def Ey(y:xT.J):bQ xT DR:=
 bif(decide (y.1.2.2.1>=(0:Int))) then
(e6 .i64 y.1.2.1 (IntKind.i64.wrap ((8:Int)*y.1.2.2.1))).bind fun a=>
(cy 1 y.2.1 ([(IntKind.u8.wrap a)]:List Int)).bind fun b=>
 some (.inl (((),y.1.2.1,(IntKind.i64.wrap (y.1.2.2.1-(1:Int))),()),b,()))
else
 some (.inr (((),()),y.2.1,()))
noncomputable def Ef:xT.J->Option (ay DR):=bx Ey
theorem adq:aW U (an (codeOf Tryz.f256) 1 250) (a_ xT DR Ef):=bR g0 (by kernel_rfl) ag fun y=>by kernel_rfl
abbrev i256:Shape:=⟨[ao 0],[],33⟩
abbrev Se:Shape:=⟨[bc 2 3000128],[bb 3000128 .u8 2 0],33⟩
noncomputable def f256(a:i256.J):Option Se.J:=
(if a.1.1.length<=maxLen then some () else none).bind fun b=>
(cy 1 (bytesOf a.1.1) ([(128:Int)]:List Int)).bind fun c=>
(Fz ((a.1.1,(),()),c,())).bind fun d=>
(Ef (((),(IntKind.i64.wrap ((d.1.1.length:Int)*(8:Int))),(7:Int),()),d.2.1,())).bind fun e=>
 some (((),()),e.2.1,())
noncomputable def Uf:aH:=aP aj Tryz.f256 i256 Se [] f256
theorem ajr:aF U 256 Uf:=aS g0 Tryz.func256 (by kernel_rfl) (a' ae4 (a' adq ag)) (fun y=>by kernel_rfl) fun a=>by kernel_rfl
noncomputable abbrev alH:bh:=[(256,Uf),(257,Ue)]
theorem Ip:a7 U (bg aj alH):=bf ⟨ajr,ajq,⟨⟩⟩
abbrev xV:Shape:=⟨[bc 3 3000192,aK 4 .u8,ae 5],[bb 3000192 .u32 3 0],57⟩
abbrev DT:List aO:=[(.exit 0,⟨[bc 3 3000192],[bb 3000192 .u32 3 0],57⟩)]
noncomputable def yb(y:xV.J):bQ xV DT:=
 bif(decide (y.1.2.2.1<(y.1.2.1.length:Int))) then
(br y.1.2.1 y.1.2.2.1 (IntKind.i64.wrap (y.1.2.2.1+(64:Int)))).bind fun a=>
(f257 ((y.2.1,a,()),())).bind fun b=>
 some (.inl (((),y.1.2.1,(IntKind.i64.wrap (y.1.2.2.1+(64:Int))),()),b.2.1,()))
else
 some (.inr (((),()),y.2.1,()))
noncomputable def Eh:xV.J->Option (ay DT):=bx yb
theorem adt:aW U (an (codeOf Tryz.f220) 1 122) (a_ xV DT Eh):=bR Ip (by kernel_rfl) ag fun y=>by kernel_rfl
abbrev xU:Shape:=⟨[bc 3 3000192,bc 6 3000384,ae 7],[bb 3000192 .u32 3 0,bb 3000384 .u8 6 0],57⟩
abbrev DS:List aO:=[(.exit 2,⟨[bc 6 3000384],[bb 3000384 .u8 6 0],57⟩)]
noncomputable def N'(y:xU.J):bQ xU DS:=
 bif(decide (y.1.2.2.1<(8:Int))) then
(a6 y.2.1.length y.1.2.2.1).bind fun a=>
(y.2.1[a]?).bind fun b=>
(e6 .u32 b (24:Int)).bind fun c=>
(a6 y.2.1.length y.1.2.2.1).bind fun d=>
(y.2.1[d]?).bind fun e=>
(e6 .u32 e (16:Int)).bind fun f=>
(a6 y.2.1.length y.1.2.2.1).bind fun g=>
(y.2.1[g]?).bind fun h=>
(e6 .u32 h (8:Int)).bind fun i=>
(a6 y.2.1.length y.1.2.2.1).bind fun j=>
(y.2.1[j]?).bind fun k=>
(cy 1 y.2.2.1 ([(IntKind.u8.wrap c),(IntKind.u8.wrap f),(IntKind.u8.wrap i),(IntKind.u8.wrap k)]:List Int)).bind fun l=>
 some (.inl (((),(),(IntKind.i64.wrap (y.1.2.2.1+(1:Int))),()),y.2.1,l,()))
else
 some (.inr (((),()),y.2.2.1,()))
noncomputable def Eg:xU.J->Option (ay DS):=bx N'
theorem ads:aW U (an (codeOf Tryz.f220) 1 506) (a_ xU DS Eg):=bR Ip (by kernel_rfl) ag fun y=>by kernel_rfl
abbrev i220:Shape:=⟨[ao 0],[],57⟩
abbrev Sn:Shape:=⟨[ao 2],[],57⟩
noncomputable def f220(a:i220.J):Option Sn.J:=
(f256 ((a.1.1,()),())).bind fun b=>
(Eh (((),b.2.1,(0:Int),()),([(1779033703:Int),(3144134277:Int),(1013904242:Int),(2773480762:Int),(1359893119:Int),(2600822924:Int),(528734635:Int),(1541459225:Int)]:List Int),())).bind fun c=>
(Eg (((),(),(0:Int),()),c.2.1,([]:List Int),())).bind fun d=>
 some (((strOf d.2.1),()),())
noncomputable def Uo:aH:=aP aj Tryz.f220 i220 Sn [] f220
theorem ajw:aF U 220 Uo:=aS Ip Tryz.func220 (by kernel_rfl) (a' adt (a' ads ag)) (fun y=>by kernel_rfl) fun a=>by kernel_rfl
def jY(n:Nat):Nat:=(120-n%64)%64
def jS(n:Int):List Int:=[IntKind.u8.wrap (n.fdiv (2^56)),IntKind.u8.wrap (n.fdiv (2^48)),IntKind.u8.wrap (n.fdiv (2^40)),IntKind.u8.wrap (n.fdiv (2^32)),IntKind.u8.wrap (n.fdiv (2^24)),IntKind.u8.wrap (n.fdiv (2^16)),IntKind.u8.wrap (n.fdiv (2^8)),IntKind.u8.wrap (n.fdiv (2^0))]
def iV(s:F):List Int:=(bytesOf s++[128])++List.replicate (jY (s.length+1)) 0
def eg(s:F):List Int:=iV s++jS ((s.length:Int)*8)
theorem ji(s:F):(bytesOf s).length=s.length:=by simp[bytesOf]
theorem uz(n:Nat):jY n<64:=Nat.mod_lt _ (by decide)
theorem EI(n:Nat):(n+jY n)%64=56:=by unfold jY;omega
theorem Ok(n j:Nat)(h:j<jY n):(n+j)%64≠56:=by unfold jY at h;omega
theorem D7(s:F):(iV s).length=s.length+1+jY (s.length+1):=by simp[iV,ji];omega
theorem x6(s:F):(eg s).length=s.length+1+jY (s.length+1)+8:=by simp[eg,D7,jS]
theorem agK(x:Int):j3 (IntKind.u8.wrap x):=by rw[IntKind.wrap_u8];constructor<;>omega
theorem NZ(s:F):∀x,x∈eg s->j3 x:=by
 intro x hx;rcases List.mem_append.1 hx with h|h
 ·rcases List.mem_append.1 h with h|h
  ·rcases List.mem_append.1 h with h|h
   ·obtain⟨b,_,rfl⟩:=List.mem_map.1 h;have:=b.toNat_lt;constructor<;>omega
   ·rw[List.mem_singleton.1 h];decide
  ·rw[(List.mem_replicate.1 h).2];decide
 ·simp only[jS,List.mem_cons,List.not_mem_nil,or_false] at h;rcases h with rfl|rfl|rfl|rfl|rfl|rfl|rfl|rfl<;>exact agK _
def ql(d:List Int)(k:Nat):List Int:=(d.take (64*k+64)).drop (64*k)
theorem PG{d:List Int}{k:Nat}(h:64*k+64<=d.length)(hb:∀x,x∈d->j3 x):qO (ql d k):=
 ⟨by unfold ql;simp;omega,fun x hx=>hb x (List.mem_of_mem_take (List.mem_of_mem_drop hx))⟩
def wS:cc:=⟨1779033703,3144134277,1013904242,2773480762,1359893119,2600822924,528734635,1541459225⟩
def s6(d:List Int):Nat->cc
 |0=>wS
 |k+1=>vq (s6 d k) (ql d k)
def ey(s:F):cc:=s6 (eg s) ((eg s).length/64)
theorem Fo(s:F):64*((eg s).length/64)=(eg s).length:=by
 have:=EI (s.length+1);rw[x6];omega
theorem Au(n:Nat):lM (n:Int) 64=some ((n%64:Nat):Int):=by
 rw[Gw (by omega) (by omega)];simp
theorem Oe(n:Nat)(d:List Int):d++List.replicate n 0++[0]=d++List.replicate (n+1) 0:=by
 rw[List.append_assoc,<-List.replicate_succ']
theorem aim{x:Int}{k:Nat}(h:k<=64):e6 .i64 x (k:Int)=some (x.fdiv (2^k)):=by
 unfold e6;rw[if_neg (by omega),Int.toNat_natCast,show IntKind.i64.bits=64 from rfl,Nat.min_eq_left h]
theorem agO{x:Int}{k:Nat}(h:k<=64):e6 .u64 x (k:Int)=some (x.fdiv (2^k)):=by
 unfold e6;rw[if_neg (by omega),Int.toNat_natCast,show IntKind.u64.bits=64 from rfl,Nat.min_eq_left h]
theorem M2(n:Int){i:Nat}(h:i<8):(jS n).take (i+1)=(jS n).take i++[IntKind.u8.wrap (n.fdiv (2^(8*(7-i))))]:=by
 have:i=0\/i=1\/i=2\/i=3\/i=4\/i=5\/i=6\/i=7:=by omega
 rcases this with rfl|rfl|rfl|rfl|rfl|rfl|rfl|rfl<;>rfl
abbrev pe(s:F):Prop:=s.length<=1073741824
theorem _U(s:F)(h:pe s):f256 ((s,()),())=some (((),()),(eg s,())):=by
 have hm:(if s.length<=maxLen then some () else none)=some ():=if_pos (by unfold maxLen;omega)
 have ha:cy 1 (bytesOf s) ([128]:List Int)=some (bytesOf s++[128]):=dZ (by decide) (by unfold aq;rw[ji];simp;omega)
 have aD:Fz ((s,((),())),(bytesOf s++[128],()))=some ((s,((),())),(iV s,())):=by
  have hz:=uz (s.length+1);have qB:∀i:Nat,(bytesOf s++[128]++List.replicate i (0:Int)).length=s.length+1+i:=fun i=>by simp[ji];omega
  have:=fH (g:=y3) (fun i=>((s,((),())),(bytesOf s++[128]++List.replicate i (0:Int),()))) (jY (s.length+1)) (b:=((s,((),())),(iV s,()))) (fun i hi=>?_) ?_ (jY (s.length+1)) 0 (by omega)
  ·rw[List.replicate_zero,List.append_nil] at this;exact this
  ·have hne:((((s.length+1+i)%64:Nat):Int) !=56)=true:=by have:=Ok (s.length+1) i hi;rw[bne_iff_ne];omega
   simp only[y3,qB,Au,Option.bind_some,hne,cond_true];rw[dZ (by decide) (by unfold aq;rw[qB];simp;omega)]
   simp only[Option.bind_some,Oe]
  ·have hne:((((s.length+1+jY (s.length+1))%64:Nat):Int) !=56)=false:=by have:=EI (s.length+1);rw[this];rfl
   simp only[y3,qB,Au,Option.bind_some,hne,cond_false];rfl
 have az:∀n:Int,Ef (((),(n,((7:Int),()))),(iV s,()))=some (((),()),(iV s++jS n,())):=by
  intro n;have:=fH (g:=Ey) (fun i=>(((),(n,((7-(i:Int)),()))),(iV s++(jS n).take i,()))) 8 (b:=(((),()),(iV s++jS n,()))) (fun i hi=>?_) rfl 8 0 rfl
  ·rw[show(7:Int)-((0:Nat):Int)=7 from rfl,List.take_zero,List.append_nil] at this;exact this
  ·have hl:decide ((7-(i:Int))>=0)=true:=by simp;omega
   have hw:IntKind.i64.wrap (8*(7-(i:Int)))=((8*(7-i):Nat):Int):=by rw[ed (by omega) (by omega)];omega
   have hs:IntKind.i64.wrap (7-(i:Int)-1)=7-((i+1:Nat):Int):=by rw[ed (by omega) (by omega)];omega
   simp only[Ey,hl,cond_true,hw,aim (x:=n) (k:=8*(7-i)) (by omega),Option.bind_some,hs]
   rw[dZ (by decide) (by unfold aq;simp[D7,jS];have:=uz (s.length+1);omega)]
   simp only[Option.bind_some,List.append_assoc,M2 n hi]
 have hn:IntKind.i64.wrap ((s.length:Int)*8)=(s.length:Int)*8:=ed (by omega) (by omega)
 simp only[f256,hm,ha,Option.bind_some,aD,hn,az];rfl
theorem aeG(s:F)(h:pe s):f220 ((s,()),())=some ((strOf ((ey s).list.flatMap fun w=>[IntKind.u8.wrap (w.fdiv (2^24)),IntKind.u8.wrap (w.fdiv (2^16)),IntKind.u8.wrap (w.fdiv (2^8)),IntKind.u8.wrap w]),()),()):=by
 have dW:=Fo s;have hlen:=x6 s;have hz:=uz (s.length+1);have jB:=NZ s;have aD:Eh (((),(eg s,((0:Int),()))),(wS.list,()))=some (((),()),((ey s).list,())):=by
  refine fH (g:=yb) (fun k=>(((),(eg s,(((64*k:Nat):Int),()))),((s6 (eg s) k).list,()))) ((eg s).length/64) (fun k hk=>?_) ?_ ((eg s).length/64) 0 (by omega)
  ·have hk2:64*k+64<=(eg s).length:=by omega
   have hl:decide (((64*k:Nat):Int)<((eg s).length:Int))=true:=by simp;omega
   have hw:IntKind.i64.wrap (((64*k:Nat):Int)+64)=((64*k+64:Nat):Int):=by rw[ed (by omega) (by omega)];omega
   have hs:br (eg s) ((64*k:Nat):Int) ((64*k+64:Nat):Int)=some (ql (eg s) k):=px (by omega) hk2
   have hb:=aa1 (s6 (eg s) k) (ql (eg s) k) (PG hk2 jB);simp only[yb,hl,cond_true,hw,hs,Option.bind_some,hb];rfl
  ·have hl:decide (((64*((eg s).length/64):Nat):Int)<((eg s).length:Int))=false:=by simp;omega
   simp only[yb,hl,cond_false];rfl
 have az:∀q:cc,Eg (((),((),((0:Int),()))),(q.list,(([]:List Int),())))=some (((),()),((q.list.flatMap fun w=>[IntKind.u8.wrap (w.fdiv (2^24)),IntKind.u8.wrap (w.fdiv (2^16)),IntKind.u8.wrap (w.fdiv (2^8)),IntKind.u8.wrap w]),())):=by
  intro q;refine fH (g:=N') (fun i=>(((),((),((i:Int),()))),(q.list,((q.list.take i).flatMap fun w=>[IntKind.u8.wrap (w.fdiv (2^24)),IntKind.u8.wrap (w.fdiv (2^16)),IntKind.u8.wrap (w.fdiv (2^8)),IntKind.u8.wrap w],())))) 8 (fun i hi=>?_) rfl 8 0 rfl
  have:i=0\/i=1\/i=2\/i=3\/i=4\/i=5\/i=6\/i=7:=by omega
  rcases this with rfl|rfl|rfl|rfl|rfl|rfl|rfl|rfl<;>(show _=_;kernel_rfl)
 have ln:=_U s h;have eS:([1779033703,3144134277,1013904242,2773480762,1359893119,2600822924,528734635,1541459225]:List Int)=wS.list:=rfl;simp only[f220,ln,Option.bind_some,eS,aD,az]
abbrev QB:Shape:=⟨[aM 0 500000 0,(1,.ak (.d (.int .u8)))],[bv 37000001 .u8 500000 1,aL 500000 [.dj,.own 37000001]],17⟩
abbrev Qi:Shape:=⟨[aM 0 500000 0,(4,.ak (.AZ))],[bv 37000001 .u8 500000 1,aL 500000 [.dj,.own 37000001]],17⟩
noncomputable def GX(a:QB.J):Option Qi.J:=
(cy 1 a.2.1 ([a.1.2.1]:List Int)).bind fun b=>
 some (((),(),()),b,((),(),()),())
noncomputable def Q0:aH:=aP aj Tryz.f122 QB Qi [0] GX
theorem agC:aF U 122 Q0:=aS g0 Tryz.func122 (by kernel_rfl) ag (fun y=>by kernel_rfl) fun a=>by kernel_rfl
abbrev xW:Shape:=⟨[ao 0,ao 3,bc 4 3000256,ae 5],[bb 3000256 .u8 4 0],30⟩
abbrev DU:List aO:=[(.exit 0,⟨[bc 4 3000256],[bb 3000256 .u8 4 0],30⟩)]
noncomputable def yc(y:xW.J):bQ xW DU:=
 bif(decide (y.1.2.2.2.1<(y.1.1.length:Int))) then
(aU y.1.1 y.1.2.2.2.1).bind fun a=>
(nC .u8 (a.toNat:Int) (16:Int)).bind fun b=>
(aU y.1.2.1 b).bind fun c=>
(aU y.1.1 y.1.2.2.2.1).bind fun d=>
(lM (d.toNat:Int) (16:Int)).bind fun e=>
(aU y.1.2.1 e).bind fun f=>
(cy 1 y.2.1 ([(c.toNat:Int),(f.toNat:Int)]:List Int)).bind fun g=>
 some (.inl ((y.1.1,y.1.2.1,(),(IntKind.i64.wrap (y.1.2.2.2.1+(1:Int))),()),g,()))
else
 some (.inr (((),()),y.2.1,()))
noncomputable def Ei:xW.J->Option (ay DU):=bx yc
theorem adu:aW U (an (codeOf Tryz.f219) 1 122) (a_ xW DU Ei):=bR g0 (by kernel_rfl) ag fun y=>by kernel_rfl
abbrev i219:Shape:=⟨[ao 0],[],30⟩
abbrev So:Shape:=⟨[ao 2],[],30⟩
noncomputable def f219(a:i219.J):Option So.J:=
(Ei ((a.1.1,([48,49,50,51,52,53,54,55,56,57,97,98,99,100,101,102]:F),(),(0:Int),()),([]:List Int),())).bind fun b=>
 some (((strOf b.2.1),()),())
noncomputable def Up:aH:=aP aj Tryz.f219 i219 So [] f219
theorem ajx:aF U 219 Up:=aS g0 Tryz.func219 (by kernel_rfl) (a' adu ag) (fun y=>by kernel_rfl) fun a=>by kernel_rfl
noncomputable abbrev al1:bh:=[(219,Up),(220,Uo)]
theorem amY:a7 U (bg aj al1):=bf ⟨ajx,ajw,⟨⟩⟩
abbrev i173:Shape:=⟨[ao 0],[],7⟩
abbrev SR:Shape:=⟨[ao 2],[],7⟩
noncomputable def f173(a:i173.J):Option SR.J:=
(f220 ((a.1.1,()),())).bind fun b=>
(f219 ((b.1.1,()),())).bind fun c=>
(br c.1.1 (0:Int) (16:Int)).bind fun d=>
 some ((d,()),())
noncomputable def UM:aH:=aP aj Tryz.f173 i173 SR [] f173
theorem z173:aF U 173 UM:=aS amY Tryz.func173 (by kernel_rfl) ag (fun y=>by kernel_rfl) fun a=>by kernel_rfl
noncomputable abbrev aqD:bh:=[(121,Vg),(122,Q0)]
theorem tr:a7 U (bg aj aqD):=bf ⟨aj7,agC,⟨⟩⟩
abbrev zL:Shape:=⟨[ao 0,ev 3 3 .u32,bc 4 3000256],[(3,.row .u32,.same),bb 3000256 .u8 4 0],70⟩
abbrev Gp:List aO:=[(.exit 0,⟨[ao 0,ev 3 3 .u32,bc 4 3000256],[(3,.row .u32,.same),bb 3000256 .u8 4 0],70⟩)]
noncomputable def Ad(y:zL.J):bQ zL Gp:=
(lM (y.2.2.1.length:Int) (64:Int)).bind fun a=>
 bif(a !=(56:Int)) then
(cy 1 y.2.2.1 ([(0:Int)]:List Int)).bind fun b=>
 some (.inl ((y.1.1,(),(),()),y.2.1,b,()))
else
 some (.inr ((y.1.1,(),(),()),y.2.1,y.2.2.1,()))
noncomputable def GM:zL.J->Option (ay Gp):=bx Ad
theorem ag9:aW U (an (codeOf Tryz.f69) 1 60) (a_ zL Gp GM):=bR tr (by kernel_rfl) ag fun y=>by kernel_rfl
abbrev yj:Shape:=⟨[ev 3 3 .u32,bc 4 3000256,(5,.ak (.d (.int .u64))),ae 6],[(3,.row .u32,.same),bb 3000256 .u8 4 0],70⟩
abbrev EN:List aO:=[(.exit 2,⟨[ev 3 3 .u32,bc 4 3000256],[(3,.row .u32,.same),bb 3000256 .u8 4 0],70⟩)]
noncomputable def FY(y:yj.J):bQ yj EN:=
 bif(decide (y.1.2.2.2.1>=(0:Int))) then
(e6 .u64 y.1.2.2.1 y.1.2.2.2.1).bind fun a=>
(cy 1 y.2.2.1 ([(IntKind.u8.wrap a)]:List Int)).bind fun b=>
 some (.inl (((),(),y.1.2.2.1,(IntKind.i64.wrap (y.1.2.2.2.1-(8:Int))),()),y.2.1,b,()))
else
 some (.inr (((),(),()),y.2.1,y.2.2.1,()))
noncomputable def Ft:yj.J->Option (ay EN):=bx FY
theorem aeV:aW U (an (codeOf Tryz.f69) 1 506) (a_ yj EN Ft):=bR tr (by kernel_rfl) ag fun y=>by kernel_rfl
abbrev xP:Shape:=⟨[ev 3 3 .u32,aK 4 .u8,ae 7],[(3,.row .u32,.same)],70⟩
abbrev DN:List aO:=[(.exit 4,⟨[ev 3 3 .u32],[(3,.row .u32,.same)],70⟩)]
noncomputable def x'(y:xP.J):bQ xP DN:=
 bif(decide (y.1.2.2.1<(y.1.2.1.length:Int))) then
(long 8 y.2.1).bind fun a=>
(br y.1.2.1 y.1.2.2.1 (IntKind.i64.wrap (y.1.2.2.1+(64:Int)))).bind fun b=>
(f121 ((((a.getD 0 (0:Int)),(a.getD 1 (0:Int)),(a.getD 2 (0:Int)),(a.getD 3 (0:Int)),(a.getD 4 (0:Int)),(a.getD 5 (0:Int)),(a.getD 6 (0:Int)),(a.getD 7 (0:Int)),()),b,()),())).bind fun c=>
(long 8 y.2.1).bind fun d=>
 some (.inl (((),y.1.2.1,(IntKind.i64.wrap (y.1.2.2.1+(64:Int))),()),([((pad (t:=.u32) 8 c.2.1).getD 0 (0:Int)),((pad (t:=.u32) 8 c.2.1).getD 1 (0:Int)),((pad (t:=.u32) 8 c.2.1).getD 2 (0:Int)),((pad (t:=.u32) 8 c.2.1).getD 3 (0:Int)),((pad (t:=.u32) 8 c.2.1).getD 4 (0:Int)),((pad (t:=.u32) 8 c.2.1).getD 5 (0:Int)),((pad (t:=.u32) 8 c.2.1).getD 6 (0:Int)),((pad (t:=.u32) 8 c.2.1).getD 7 (0:Int))]:List Int),()))
else
 some (.inr (((),()),y.2.1,()))
noncomputable def Eb:xP.J->Option (ay DN):=bx x'
theorem adk:aW U (an (codeOf Tryz.f69) 1 1018) (a_ xP DN Eb):=bR tr (by kernel_rfl) ag fun y=>by kernel_rfl
abbrev wZ:Shape:=⟨[aM 8 8 0,(10,.ak (.d (.int .u32))),ae 11,aK 52 .u32,ae 53,ae 54],[bv 5000513 .u8 8 1,aL 8 [.dj,.own 5000513]],70⟩
abbrev CD:List aO:=[(.exit 8,⟨[aM 8 8 0,aK 52 .u32,ae 53,ae 54],[bv 5000513 .u8 8 1,aL 8 [.dj,.own 5000513]],70⟩)]
noncomputable def CJ(y:wZ.J):bQ wZ CD:=
 bif(decide (y.1.2.2.1>=(0:Int))) then
(e6 .u32 y.1.2.1 y.1.2.2.1).bind fun a=>
(aU ([48,49,50,51,52,53,54,55,56,57,97,98,99,100,101,102]:F) (eu .u32 a (15:Int))).bind fun b=>
(GX (((),(b.toNat:Int),()),y.2.1,((),(),()),())).bind fun c=>
 some (.inl (((),y.1.2.1,(IntKind.i64.wrap (y.1.2.2.1-(4:Int))),y.1.2.2.2.1,y.1.2.2.2.2.1,y.1.2.2.2.2.2.1,()),c.2.1,((),(),()),()))
else
 some (.inr (((),y.1.2.2.2.1,y.1.2.2.2.2.1,y.1.2.2.2.2.2.1,()),y.2.1,((),(),()),()))
noncomputable def CH:wZ.J->Option (ay CD):=bx CJ
theorem _j:aW U (an (c8 (an (codeOf Tryz.f69) 1 4090)) 8180 1047142) (a_ wZ CD CH):=bR tr (by kernel_rfl) ag fun y=>by kernel_rfl
abbrev xO:Shape:=⟨[aM 8 8 0,aK 52 .u32,ae 53,ae 54],[bv 5000513 .u8 8 1,aL 8 [.dj,.own 5000513]],70⟩
abbrev DM:List aO:=[(.exit 6,⟨[aM 8 8 0],[bv 5000513 .u8 8 1,aL 8 [.dj,.own 5000513]],70⟩)]
noncomputable def pz(y:xO.J):bQ xO DM:=
 bif(decide (y.1.2.2.2.1<y.1.2.2.1)) then
(aU y.1.2.1 y.1.2.2.2.1).bind fun a=>
(CH (((),a,(28:Int),y.1.2.1,y.1.2.2.1,y.1.2.2.2.1,()),y.2.1,((),(),()),())).bind fun b=>
 some (.inl (((),b.1.2.1,b.1.2.2.1,(IntKind.i64.wrap (b.1.2.2.2.1+(1:Int))),()),b.2.1,((),(),()),()))
else
 some (.inr (((),()),y.2.1,((),(),()),()))
noncomputable def Ea:xO.J->Option (ay DM):=bx pz
theorem adj:aW U (an (codeOf Tryz.f69) 1 4090) (a_ xO DM Ea):=bR tr (by kernel_rfl) (a' _j ag) fun y=>by kernel_rfl
abbrev i69:Shape:=⟨[ao 0],[],70⟩
abbrev Wh:Shape:=⟨[ao 2],[],70⟩
noncomputable def f69(a:i69.J):Option Wh.J:=
(long 8 (List.replicate 8 (0:Int))).bind fun b=>
(if a.1.1.length<=maxLen then some () else none).bind fun c=>
(cy 1 (bytesOf a.1.1) ([(128:Int)]:List Int)).bind fun d=>
(GM ((a.1.1,(),(),()),([(1779033703:Int),(3144134277:Int),(1013904242:Int),(2773480762:Int),(1359893119:Int),(2600822924:Int),(528734635:Int),(1541459225:Int)]:List Int),d,())).bind fun e=>
(Ft (((),(),(IntKind.u64.wrap ((IntKind.u64.wrap (e.1.1.length:Int))*(8:Int))),(56:Int),()),e.2.1,e.2.2.1,())).bind fun f=>
(Eb (((),f.2.2.1,(0:Int),()),f.2.1,())).bind fun g=>
((long 8 g.2.1).bind fun q=>br q (0:Int) (2:Int)).bind fun h=>
(Ea (((),h,(h.length:Int),(0:Int),()),([]:List Int),((),(),()),())).bind fun i=>
 some (((strOf i.2.1),()),())
noncomputable def Xz:aH:=aP aj Tryz.f69 i69 Wh [] f69
theorem ano:aF U 69 Xz:=aS tr Tryz.func69 (by kernel_rfl) (a' ag9 (a' aeV (a' adk (a' adj ag)))) (fun y=>by kernel_rfl) fun a=>by kernel_rfl
def sO:F:=[48,49,50,51,52,53,54,55,56,57,97,98,99,100,101,102]
def iX(k:Nat):UInt8:=sO.getD k 48
theorem GP{k:Nat}(h:k<16):aU sO (k:Int)=some (iX k):=by
 rw[b6];unfold iX;rw[List.getD_eq_getElem?_getD,List.getElem?_eq_getElem (by exact h)];rfl
def hV(b:UInt8):F:=[iX (b.toNat/16),iX (b.toNat%16)]
def fA(w:Int):F:=[iX (w.toNat/268435456%16),iX (w.toNat/16777216%16),iX (w.toNat/1048576%16),iX (w.toNat/65536%16),iX (w.toNat/4096%16),iX (w.toNat/256%16),iX (w.toNat/16%16),iX (w.toNat%16)]
def oI(s:F):F:=fA (ey s).a++fA (ey s).b
theorem wY(s:F):strOf (bytesOf s)=s:=by
 unfold strOf bytesOf;rw[List.map_map];refine List.map_id'' (fun b=>?_) s
 simp
theorem pi(s t:F):bytesOf (s++t)=bytesOf s++bytesOf t:=by unfold bytesOf;rw[List.map_append]
theorem Z4(s:F)(h:pe s):f219 ((s,()),())=some ((s.flatMap hV,()),()):=by
 have aD:Ei ((s,(sO,((),((0:Int),())))),(([]:List Int),()))=some (((),()),(bytesOf (s.flatMap hV),())):=by
  have hlen:∀t:F,(t.flatMap hV).length=2*t.length:=by
   intro t;induction t with
   |nil=>rfl
   |cons b r ih=>rw[List.flatMap_cons,List.length_append,ih];simp[hV];omega
  refine fH (g:=yc) (fun i=>((s,(sO,((),((i:Int),())))),(bytesOf ((s.take i).flatMap hV),()))) s.length (fun i hi=>?_) ?_ s.length 0 (by omega)
  ·obtain⟨b,hb⟩:∃b,s[i]? =some b:=⟨s[i],List.getElem?_eq_getElem hi⟩;have ar:nC .u8 (b.toNat:Int) 16=some ((b.toNat/16:Nat):Int):=by
    have:=b.toNat_lt;unfold nC;rw[if_neg (by decide),Int.tdiv_eq_ediv_of_nonneg (by omega),IntKind.wrap_u8]
    congr 1;omega
   have hr:lM (b.toNat:Int) 16=some ((b.toNat%16:Nat):Int):=by rw[Gw (by omega) (by omega)];simp
   have:=b.toNat_lt;have e1:=GP (k:=b.toNat/16) (by omega)
   have e2:=GP (k:=b.toNat%16) (by omega)
   have ap:s.take (i+1)=s.take i++[b]:=by rw[List.take_add_one,hb];rfl
   simp only[yc,cp hi,cond_true,b6,hb,Option.bind_some,ar,hr,ap];simp only[<-b6,e1,e2,Option.bind_some];rw[dZ (by decide) (by unfold aq;rw[ji,hlen];simp;omega),b0 (by unfold aq;omega)]
   simp only[Option.bind_some,List.flatMap_append,pi];rfl
  ·simp only[yc,dM,cond_false,List.take_length]
 have eS:([48,49,50,51,52,53,54,55,56,57,97,98,99,100,101,102]:F)=sO:=rfl;simp only[f219,eS,aD,Option.bind_some,wY]
abbrev qN(w:Int):Prop:=0<=w/\w<4294967296
theorem Px{w:Int}(h:qN w):hV (UInt8.ofNat (IntKind.u8.wrap (w.fdiv (2^24))).toNat)++(hV (UInt8.ofNat (IntKind.u8.wrap (w.fdiv (2^16))).toNat)++(hV (UInt8.ofNat (IntKind.u8.wrap (w.fdiv (2^8))).toNat)++hV (UInt8.ofNat (IntKind.u8.wrap w).toNat)))=fA w:=by
 obtain⟨n,rfl⟩:=Int.eq_ofNat_of_zero_le h.1;have hn:n<4294967296:=by have:=h.2;omega
 have e:∀m:Nat,(UInt8.ofNat (IntKind.u8.wrap (m:Int)).toNat).toNat=m%256:=fun m=>by
  rw[IntKind.wrap_u8,show((m:Int)%256).toNat=m%256 by omega];simp
 have f:∀k:Nat,((n:Int).fdiv (2^k))=((n/2^k:Nat):Int):=fun k=>by
  rw[Int.fdiv_eq_ediv_of_nonneg _ (by exact Int.le_of_lt (Int.pow_pos (by decide)))]
  simp
 rw[f,f,f];simp only[hV,fA,e,List.cons_append,List.nil_append,Int.toNat_natCast];rw[show n/2^24%256/16=n/268435456%16 by omega,show n/2^24%256%16=n/16777216%16 by omega,show n/2^16%256/16=n/1048576%16 by omega,show n/2^16%256%16=n/65536%16 by omega,
  show n/2^8%256/16=n/4096%16 by omega,show n/2^8%256%16=n/256%16 by omega,show n%256/16=n/16%16 by omega,show n%256%16=n%16 by omega]
theorem Q_(x:Int):qN (IntKind.u32.wrap x):=by rw[IntKind.wrap_u32];constructor<;>omega
theorem T0(s:F):qN (ey s).a/\qN (ey s).b:=by
 have h1:=Fo s;have h2:=x6 s;unfold ey;generalize hk:(eg s).length/64=k at h1;cases k with
 |zero=>omega
 |succ k=>exact⟨Q_ _,Q_ _⟩
theorem N6(w:Int):(fA w).length=8:=rfl
theorem D1(s:F):(oI s).length=16:=rfl
theorem aij(s:F)(h:pe s):f173 ((s,()),())=some ((oI s,()),()):=by
 have aD:=aeG s h;have hw:=T0 s;have az:=Z4 (strOf ((ey s).list.flatMap fun w=>[IntKind.u8.wrap (w.fdiv (2^24)),IntKind.u8.wrap (w.fdiv (2^16)),IntKind.u8.wrap (w.fdiv (2^8)),IntKind.u8.wrap w])) (by unfold pe;simp[strOf,cc.list])
 have ap:∀q:cc,br ((strOf (q.list.flatMap fun w=>[IntKind.u8.wrap (w.fdiv (2^24)),IntKind.u8.wrap (w.fdiv (2^16)),IntKind.u8.wrap (w.fdiv (2^8)),IntKind.u8.wrap w])).flatMap hV) 0 16=
   some ((hV (UInt8.ofNat (IntKind.u8.wrap (q.a.fdiv (2^24))).toNat)++(hV (UInt8.ofNat (IntKind.u8.wrap (q.a.fdiv (2^16))).toNat)++(hV (UInt8.ofNat (IntKind.u8.wrap (q.a.fdiv (2^8))).toNat)++hV (UInt8.ofNat (IntKind.u8.wrap q.a).toNat))))++
    (hV (UInt8.ofNat (IntKind.u8.wrap (q.b.fdiv (2^24))).toNat)++(hV (UInt8.ofNat (IntKind.u8.wrap (q.b.fdiv (2^16))).toNat)++(hV (UInt8.ofNat (IntKind.u8.wrap (q.b.fdiv (2^8))).toNat)++hV (UInt8.ofNat (IntKind.u8.wrap q.b).toNat))))):=fun q=>rfl
 simp only[f173,aD,az,Option.bind_some,ap,Px hw.1,Px hw.2];rfl
theorem aja{m:Nat}(h:m<4294967296):eu .u32 (m:Int) 15=((m%16:Nat):Int):=by
 unfold eu;rw[BitVec.toNat_and,Dh h,show(BitVec.ofInt IntKind.u32.bits 15).toNat=15 from rfl,show(15:Nat)=2^4-1 from rfl,Nat.and_two_pow_sub_one_eq_mod,od (by omega) (by omega)]
theorem ad3(w:Int){i:Nat}(h:i<8):(fA w)[i]? =some (iX (w.toNat/2^(28-4*i)%16)):=by
 have:i=0\/i=1\/i=2\/i=3\/i=4\/i=5\/i=6\/i=7:=by omega
 rcases this with rfl|rfl|rfl|rfl|rfl|rfl|rfl|rfl<;>simp[fA]
theorem N5(w:Int)(hw:qN w)(r0:List Int)(hr:r0.length<=100)(p q u):CH (((),(w,((28:Int),(p,(q,(u,())))))),(r0,(((),((),())),())))=some (((),(p,(q,(u,())))),(r0++bytesOf (fA w),(((),((),())),()))):=by
 have:=fH (g:=CJ) (fun i=>(((),(w,((28-4*(i:Int)),(p,(q,(u,())))))),(r0++bytesOf ((fA w).take i),(((),((),())),())))) 8 (b:=(((),(p,(q,(u,())))),(r0++bytesOf (fA w),(((),((),())),())))) (fun i hi=>?_) rfl 8 0 rfl
 ·rw[show(28:Int)-4*((0:Nat):Int)=28 from rfl,List.take_zero] at this
  have e:r0++bytesOf []=r0:=List.append_nil r0;rw[e] at this;exact this
 ·obtain⟨n,rfl⟩:=Int.eq_ofNat_of_zero_le hw.1;have hn:n<4294967296:=by have:=hw.2;omega
  have hl:decide ((28-4*(i:Int))>=0)=true:=by simp;omega
  have hs:e6 .u32 (n:Int) (28-4*(i:Int))=some ((n/2^(28-4*i):Nat):Int):=by
   rw[show(28-4*(i:Int))=((28-4*i:Nat):Int) by omega]
   unfold e6;rw[if_neg (by omega),Int.toNat_natCast,show IntKind.u32.bits=32 from rfl,Nat.min_eq_left (by omega),Int.fdiv_eq_ediv_of_nonneg _ (by exact Int.le_of_lt (Int.pow_pos (by decide)))]
   simp
  have hlt:n/2^(28-4*i)<4294967296:=Nat.lt_of_le_of_lt (Nat.div_le_self _ _) hn;have ha:=aja hlt;have hx:=GP (k:=n/2^(28-4*i)%16) (Nat.mod_lt _ (by decide))
  have Z:IntKind.i64.wrap (28-4*(i:Int)-4)=28-4*((i+1:Nat):Int):=by rw[ed (by omega) (by omega)];omega
  have ap:(fA (n:Int)).take (i+1)=(fA (n:Int)).take i++[iX (n/2^(28-4*i)%16)]:=by
   rw[List.take_add_one,ad3 _ hi,Int.toNat_natCast];rfl
  have eS:([48,49,50,51,52,53,54,55,56,57,97,98,99,100,101,102]:F)=sO:=rfl;simp only[CJ,hl,cond_true,hs,Option.bind_some,ha,eS,hx,GX,Z,ap,pi];rw[dZ (by decide) (by unfold aq;simp[ji,N6];omega)]
  simp only[Option.bind_some,List.append_assoc];rfl
theorem agJ(s:F)(h:pe s):f69 ((s,()),())=some ((oI s,()),()):=by
 have dW:=Fo s;have hlen:=x6 s;have hz:=uz (s.length+1);have jB:=NZ s;have hm:(if s.length<=maxLen then some () else none)=some ():=if_pos (by unfold maxLen;omega)
 have ha:cy 1 (bytesOf s) ([128]:List Int)=some (bytesOf s++[128]):=dZ (by decide) (by unfold aq;rw[ji];simp;omega)
 have h8:long 8 (List.replicate 8 (0:Int))=some (List.replicate 8 (0:Int)):=rfl;have aD:∀r0:List Int,GM ((s,((),((),()))),(r0,(bytesOf s++[128],())))=some ((s,((),((),()))),(r0,(iV s,()))):=by
  intro r0;have qB:∀i:Nat,(bytesOf s++[128]++List.replicate i (0:Int)).length=s.length+1+i:=fun i=>by simp[ji];omega
  have:=fH (g:=Ad) (fun i=>((s,((),((),()))),(r0,(bytesOf s++[128]++List.replicate i (0:Int),())))) (jY (s.length+1)) (b:=((s,((),((),()))),(r0,(iV s,())))) (fun i hi=>?_) ?_ (jY (s.length+1)) 0 (by omega)
  ·rw[List.replicate_zero,List.append_nil] at this;exact this
  ·have hne:((((s.length+1+i)%64:Nat):Int) !=56)=true:=by have:=Ok (s.length+1) i hi;rw[bne_iff_ne];omega
   simp only[Ad,qB,Au,Option.bind_some,hne,cond_true];rw[dZ (by decide) (by unfold aq;rw[qB];simp;omega)]
   simp only[Option.bind_some,Oe]
  ·have hne:((((s.length+1+jY (s.length+1))%64:Nat):Int) !=56)=false:=by have:=EI (s.length+1);rw[this];rfl
   simp only[Ad,qB,Au,Option.bind_some,hne,cond_false];rfl
 have az:∀(n:Int) (r0:List Int),Ft (((),((),(n,((56:Int),())))),(r0,(iV s,())))=some (((),((),())),(r0,(iV s++jS n,()))):=by
  intro n r0;have:=fH (g:=FY) (fun i=>(((),((),(n,((56-8*(i:Int)),())))),(r0,(iV s++(jS n).take i,())))) 8 (b:=(((),((),())),(r0,(iV s++jS n,())))) (fun i hi=>?_) rfl 8 0 rfl
  ·rw[show(56:Int)-8*((0:Nat):Int)=56 from rfl,List.take_zero,List.append_nil] at this;exact this
  ·have hl:decide ((56-8*(i:Int))>=0)=true:=by simp;omega
   have hw:(56-8*(i:Int))=((8*(7-i):Nat):Int):=by omega
   have hs:IntKind.i64.wrap (56-8*(i:Int)-8)=56-8*((i+1:Nat):Int):=by rw[ed (by omega) (by omega)];omega
   have hx:e6 .u64 n (56-8*(i:Int))=some (n.fdiv (2^(8*(7-i)))):=by rw[hw];exact agO (by omega)
   simp only[FY,hl,cond_true,hx,Option.bind_some,hs];rw[dZ (by decide) (by unfold aq;simp[D7,jS];have:=uz (s.length+1);omega)]
   simp only[Option.bind_some,List.append_assoc,M2 n hi]
 have hp:∀q:cc,long 8 q.list=some q.list:=fun q=>rfl
 have bD:Eb (((),(eg s,((0:Int),()))),(wS.list,()))=some (((),()),((ey s).list,())):=by
  refine fH (g:=x') (fun k=>(((),(eg s,(((64*k:Nat):Int),()))),((s6 (eg s) k).list,()))) ((eg s).length/64) (fun k hk=>?_) ?_ ((eg s).length/64) 0 (by omega)
  ·have hk2:64*k+64<=(eg s).length:=by omega
   have hl:decide (((64*k:Nat):Int)<((eg s).length:Int))=true:=by simp;omega
   have hw:IntKind.i64.wrap (((64*k:Nat):Int)+64)=((64*k+64:Nat):Int):=by rw[ed (by omega) (by omega)];omega
   have hs:br (eg s) ((64*k:Nat):Int) ((64*k+64:Nat):Int)=some (ql (eg s) k):=px (by omega) hk2
   have hb:=_Q (s6 (eg s) k) (ql (eg s) k) (PG hk2 jB);have ar:∀q:cc,((q.list.getD 0 0,(q.list.getD 1 0,(q.list.getD 2 0,(q.list.getD 3 0,(q.list.getD 4 0,(q.list.getD 5 0,(q.list.getD 6 0,(q.list.getD 7 0,())))))))):Int×Int×Int×Int×Int×Int×Int×Int×Unit)=(q.a,(q.b,(q.c,(q.d,(q.e,(q.f,(q.g,(q.h,())))))))):=fun q=>rfl
   simp only[x',hl,cond_true,hw,hs,Option.bind_some,hp,ar,hb];rfl
  ·have hl:decide (((64*((eg s).length/64):Nat):Int)<((eg s).length:Int))=false:=by simp;omega
   simp only[x',hl,cond_false];rfl
 have hw:=T0 s;have cQ:∀a b:Int,qN a->qN b->Ea (((),(([a,b]:List Int),((([a,b]:List Int).length:Int),((0:Int),())))),(([]:List Int),(((),((),())),())))=some (((),()),(bytesOf (fA a++fA b),(((),((),())),()))):=by
  intro a b ha hb;have e1:=N5 a ha [] (by simp) ([a,b]:List Int) ((2:Int)) (0:Int)
  have e2:=N5 b hb (bytesOf (fA a)) (by rw[ji,N6];decide) ([a,b]:List Int) ((2:Int)) (1:Int)
  have dq:aU ([a,b]:List Int) 0=some a:=rfl;have eB:aU ([a,b]:List Int) 1=some b:=rfl;have h7:pz (((),(([a,b]:List Int),((2:Int),((0:Int),())))),(([]:List Int),(((),((),())),())))=some (.inl (((),(([a,b]:List Int),((2:Int),((1:Int),())))),(bytesOf (fA a),(((),((),())),())))):=by
   have:decide ((0:Int)<2)=true:=rfl;simp only[pz,this,cond_true,dq,Option.bind_some,e1];rfl
  have s1:pz (((),(([a,b]:List Int),((2:Int),((1:Int),())))),(bytesOf (fA a),(((),((),())),())))=some (.inl (((),(([a,b]:List Int),((2:Int),((2:Int),())))),(bytesOf (fA a++fA b),(((),((),())),())))):=by
   have:decide ((1:Int)<2)=true:=rfl;simp only[pz,this,cond_true,eB,Option.bind_some,e2,pi];rfl
  have s2:pz (((),(([a,b]:List Int),((2:Int),((2:Int),())))),(bytesOf (fA a++fA b),(((),((),())),())))=some (.inr (((),()),(bytesOf (fA a++fA b),(((),((),())),())))):=by
   have:decide ((2:Int)<2)=false:=rfl;simp only[pz,this,cond_false]
  exact(dD h7).trans ((dD s1).trans (cm s2))
 have hn:IntKind.u64.wrap (IntKind.u64.wrap (s.length:Int)*8)=(s.length:Int)*8:=by rw[IntKind.wrap_u64,IntKind.wrap_u64];omega
 have eS:([1779033703,3144134277,1013904242,2773480762,1359893119,2600822924,528734635,1541459225]:List Int)=wS.list:=rfl;have hz2:((long 8 (ey s).list).bind fun q=>br q (0:Int) (2:Int))=some [(ey s).a,(ey s).b]:=rfl
 have akR:iV s++jS ((s.length:Int)*8)=eg s:=rfl;simp only[f69,h8,hm,ha,Option.bind_some,eS,aD,hn,az,akR,bD,hz2,cQ _ _ hw.1 hw.2,wY];rfl
abbrev Rp:Shape:=⟨[aM 0 500000 0,ao 1],[bv 37000001 .u8 500000 1,aL 500000 [.dj,.own 37000001]],19⟩
abbrev Rg:Shape:=⟨[aM 0 500000 0,ae 4,(5,.ak (.AZ))],[bv 37000001 .u8 500000 1,aL 500000 [.dj,.own 37000001]],19⟩
noncomputable def lJ(a:Rp.J):Option Rg.J:=
(cy 1 a.2.1 (bytesOf a.1.2.1)).bind fun b=>
 some (((),(a.1.2.1.length:Int),(),()),b,((),(),()),())
noncomputable def AP:aH:=aP aj Tryz.f63 Rp Rg [0] lJ
theorem G3:aF U 63 AP:=aS g0 Tryz.func63 (by kernel_rfl) ag (fun y=>by kernel_rfl) fun a=>by kernel_rfl
end Go.Proofs
namespace Go.Proofs
open Go.Shelf
def Tryz.ZM:Go.Shelf.Ren:=⟨fun|171=>64|243=>113|246=>165|283=>205|284=>206|285=>207|286=>208|129=>240|317=>239|318=>241|319=>242|320=>243|337=>269|338=>270|n=>n,fun|3=>3|9=>9|2=>2|4=>4|171=>224|0=>0|53=>155|37=>52|5=>5|173=>227|212=>244|51=>153|20=>20|213=>245|46=>203|232=>268|233=>269|n=>n,fun|17=>1|18=>3|19=>4|n=>n⟩
theorem Tryz.adY:Go.Proofs.LaysM.n171 U Tryz.ZM:={
 mixed:=by kernel_rfl
 f129:=Tryz.func240.trans (congrArg some (by kernel_rfl))
 f171:=Tryz.func64.trans (congrArg some (by kernel_rfl))
 f243:=Tryz.func113.trans (congrArg some (by kernel_rfl))
 f246:=Tryz.func165.trans (congrArg some (by kernel_rfl))
 f283:=Tryz.func205.trans (congrArg some (by kernel_rfl))
 f284:=Tryz.func206.trans (congrArg some (by kernel_rfl))
 f285:=Tryz.func207.trans (congrArg some (by kernel_rfl))
 f286:=Tryz.func208.trans (congrArg some (by kernel_rfl))
 f317:=Tryz.func239.trans (congrArg some (by kernel_rfl))
 f318:=Tryz.func241.trans (congrArg some (by kernel_rfl))
 f319:=Tryz.func242.trans (congrArg some (by kernel_rfl))
 f320:=Tryz.func243.trans (congrArg some (by kernel_rfl))
 f337:=Tryz.func269.trans (congrArg some (by kernel_rfl))
 f338:=Tryz.func270.trans (congrArg some (by kernel_rfl))
 t0:=Tryz.underlying0
 a0:=Tryz.isAgg0
 z0:=Tryz.sizeOf0
 v0:=Tryz.zeroValue0
 t2:=Tryz.underlying2
 a2:=Tryz.isAgg2
 z2:=Tryz.sizeOf2
 v2:=Tryz.zeroValue2
 t3:=Tryz.underlying3
 a3:=Tryz.isAgg3
 z3:=Tryz.sizeOf3
 v3:=Tryz.zeroValue3
 t4:=Tryz.underlying4
 a4:=Tryz.isAgg4
 z4:=Tryz.sizeOf4
 v4:=Tryz.zeroValue4
 t5:=Tryz.underlying5
 a5:=Tryz.isAgg5
 z5:=Tryz.sizeOf5
 v5:=Tryz.zeroValue5
 t9:=Tryz.underlying9
 a9:=Tryz.isAgg9
 z9:=Tryz.sizeOf9
 v9:=Tryz.zeroValue9
 t20:=Tryz.underlying20
 a20:=Tryz.isAgg20
 z20:=Tryz.sizeOf20
 v20:=Tryz.zeroValue20
 t37:=Tryz.underlying52
 a37:=Tryz.isAgg52
 z37:=Tryz.sizeOf52
 v37:=Tryz.zeroValue52
 t46:=Tryz.underlying203
 a46:=Tryz.isAgg203
 z46:=Tryz.sizeOf203
 v46:=Tryz.zeroValue203
 t51:=Tryz.underlying153
 a51:=Tryz.isAgg153
 z51:=Tryz.sizeOf153
 v51:=Tryz.zeroValue153
 t53:=Tryz.underlying155
 a53:=Tryz.isAgg155
 z53:=Tryz.sizeOf155
 v53:=Tryz.zeroValue155
 t171:=Tryz.underlying224
 a171:=Tryz.isAgg224
 z171:=Tryz.sizeOf224
 v171:=Tryz.zeroValue224
 t173:=Tryz.underlying227
 a173:=Tryz.isAgg227
 z173:=Tryz.sizeOf227
 v173:=Tryz.zeroValue227
 t212:=Tryz.underlying244
 a212:=Tryz.isAgg244
 z212:=Tryz.sizeOf244
 v212:=Tryz.zeroValue244
 t213:=Tryz.underlying245
 a213:=Tryz.isAgg245
 z213:=Tryz.sizeOf245
 t232:=Tryz.underlying268
 a232:=Tryz.isAgg268
 z232:=Tryz.sizeOf268
 v232:=Tryz.zeroValue268
 t233:=Tryz.underlying269
 a233:=Tryz.isAgg269
 z233:=Tryz.sizeOf269
 v233:=Tryz.zeroValue269
 g17:=by kernel_rfl
 g18:=by kernel_rfl
 g19:=by kernel_rfl
 i0:=by kernel_rfl
 i2:=by kernel_rfl
 i3:=by kernel_rfl
 i4:=by kernel_rfl
 i5:=by kernel_rfl
 i9:=by kernel_rfl
 i20:=by kernel_rfl
 i37:=by kernel_rfl
 i46:=by kernel_rfl
 i51:=by kernel_rfl
 i53:=by kernel_rfl
 i171:=by kernel_rfl
 i173:=by kernel_rfl
 i212:=by kernel_rfl
 i232:=by kernel_rfl
 i233:=by kernel_rfl
 m17:=by kernel_rfl
 m18:=by kernel_rfl
 m19:=by kernel_rfl}
open Go.RowKit Go.Sort Go.Lib in
theorem Tryz.strconv_Itoa(n:Int)(h0:-9223372036854775808<=n)(h1:n<=9223372036854775807)(w:World)(akO:Lib.TabIs U w "internal/strconv.uint64pow10" .u64 Lib.pow10Tab):
  Calls U 64 #[.int .i64 n] w fun e w'=>e=.returned (.string ⟨(Lib.itoa n).toArray⟩)/\∃k os,w'=grow (w.drewN k) os:=Any.strconv_Itoa Tryz.adY n h0 h1 w akO
def Tryz._z:Go.Shelf.Ren:=⟨fun|153=>214|152=>252|226=>253|227=>254|228=>255|137=>274|119=>275|224=>246|225=>245|217=>244|266=>271|n=>n,fun|9=>9|3=>3|4=>4|5=>5|21=>21|117=>253|116=>252|0=>0|46=>203|124=>264|n=>n,fun|n=>n⟩
theorem Tryz.afT:Go.Proofs.Lays.n153 U Tryz._z:={
 mixed:=by kernel_rfl
 f119:=Tryz.func275.trans (congrArg some (by kernel_rfl))
 f137:=Tryz.func274.trans (congrArg some (by kernel_rfl))
 f152:=Tryz.func252.trans (congrArg some (by kernel_rfl))
 f153:=Tryz.func214.trans (congrArg some (by kernel_rfl))
 f217:=Tryz.func244.trans (congrArg some (by kernel_rfl))
 f224:=Tryz.func246.trans (congrArg some (by kernel_rfl))
 f225:=Tryz.func245.trans (congrArg some (by kernel_rfl))
 f226:=Tryz.func253.trans (congrArg some (by kernel_rfl))
 f227:=Tryz.func254.trans (congrArg some (by kernel_rfl))
 f228:=Tryz.func255.trans (congrArg some (by kernel_rfl))
 f266:=Tryz.func271.trans (congrArg some (by kernel_rfl))
 t0:=Tryz.underlying0
 a0:=Tryz.isAgg0
 z0:=Tryz.sizeOf0
 v0:=Tryz.zeroValue0
 t3:=Tryz.underlying3
 a3:=Tryz.isAgg3
 z3:=Tryz.sizeOf3
 v3:=Tryz.zeroValue3
 t4:=Tryz.underlying4
 a4:=Tryz.isAgg4
 z4:=Tryz.sizeOf4
 v4:=Tryz.zeroValue4
 t5:=Tryz.underlying5
 a5:=Tryz.isAgg5
 z5:=Tryz.sizeOf5
 v5:=Tryz.zeroValue5
 t9:=Tryz.underlying9
 a9:=Tryz.isAgg9
 z9:=Tryz.sizeOf9
 v9:=Tryz.zeroValue9
 t21:=Tryz.underlying21
 a21:=Tryz.isAgg21
 z21:=Tryz.sizeOf21
 v21:=Tryz.zeroValue21
 t46:=Tryz.underlying203
 a46:=Tryz.isAgg203
 z46:=Tryz.sizeOf203
 v46:=Tryz.zeroValue203
 t116:=Tryz.underlying252
 a116:=Tryz.isAgg252
 z116:=Tryz.sizeOf252
 t117:=Tryz.underlying253
 a117:=Tryz.isAgg253
 z117:=Tryz.sizeOf253
 v117:=Tryz.zeroValue253
 t124:=Tryz.underlying264
 a124:=Tryz.isAgg264
 z124:=Tryz.sizeOf264
 v124:=Tryz.zeroValue264}
end Go.Proofs
namespace Go.Proofs
open Go.Jk
noncomputable def Ba:aH:=Ep
theorem Hh:aF U 64 Ba:=afV (fun _ _=>enters_of Tryz.func64 (by kernel_rfl) rfl _ _) fun n h0 h1 w hw=>Tryz.strconv_Itoa n h0 h1 w (acZ (by kernel_rfl) (show nB w 1 .u64 Lib.pow10Tab from hw.2))
noncomputable abbrev amx:bh:=[(63,AP),(64,Ba),(105,vw)]
theorem VL:a7 U (bg aj amx):=bf ⟨G3,Hh,z105,⟨⟩⟩
abbrev x3:Shape:=⟨[aM 3 3 0,aK 10 .entry,ae 11,ae 12],[bv 5000193 .u8 3 1,aL 3 [.dj,.own 5000193]],64⟩
abbrev DZ:List aO:=[(.exit 0,⟨[aM 3 3 0],[bv 5000193 .u8 3 1,aL 3 [.dj,.own 5000193]],64⟩)]
noncomputable def yf(y:x3.J):bQ x3 DZ:=
 bif(decide (y.1.2.2.2.1<y.1.2.2.1)) then
(aU y.1.2.1 y.1.2.2.2.1).bind fun a=>
(if-9223372036854775808<=a.mode/\a.mode<=9223372036854775807 then some () else none).bind fun b=>
 bif(a.kind==(1:Int)) then
(bV ([100,105,114,32]:F) (Lib.itoa a.mode)).bind fun c=>
(bV c ([32]:F)).bind fun d=>
(bV d a.path).bind fun e=>
(bV e ([10]:F)).bind fun f=>
(lJ (((),f,()),y.2.1,((),(),()),())).bind fun g=>
 some (.inl (((),y.1.2.1,y.1.2.2.1,(IntKind.i64.wrap (y.1.2.2.2.1+(1:Int))),()),g.2.1,((),(),()),()))
else
 bif(a.kind==(2:Int)) then
(bV ([102,105,108,101,32]:F) (Lib.itoa a.mode)).bind fun h=>
(bV h ([32]:F)).bind fun i=>
(bV i a.path).bind fun j=>
(bV j ([32]:F)).bind fun k=>
(if-9223372036854775808<=(a.text.length:Int)/\(a.text.length:Int)<=9223372036854775807 then some () else none).bind fun l=>
(bV k (Lib.itoa (a.text.length:Int))).bind fun m=>
(bV m ([10]:F)).bind fun n=>
(lJ (((),n,()),y.2.1,((),(),()),())).bind fun B=>
(bV a.text ([10]:F)).bind fun p=>
(lJ (((),p,()),B.2.1,((),(),()),())).bind fun q=>
 some (.inl (((),y.1.2.1,y.1.2.2.1,(IntKind.i64.wrap (y.1.2.2.2.1+(1:Int))),()),q.2.1,((),(),()),()))
else
 bif(a.kind==(3:Int)) then
(bV ([108,105,110,107,32]:F) a.path).bind fun r=>
(bV r ([32]:F)).bind fun s=>
(bV s a.text).bind fun t=>
(bV t ([10]:F)).bind fun u=>
(lJ (((),u,()),y.2.1,((),(),()),())).bind fun v=>
 some (.inl (((),y.1.2.1,y.1.2.2.1,(IntKind.i64.wrap (y.1.2.2.2.1+(1:Int))),()),v.2.1,((),(),()),()))
else
 some (.inl (((),y.1.2.1,y.1.2.2.1,(IntKind.i64.wrap (y.1.2.2.2.1+(1:Int))),()),y.2.1,((),(),()),()))
else
 some (.inr (((),()),y.2.1,((),(),()),()))
noncomputable def En:x3.J->Option (ay DZ):=bx yf
theorem adF:aW U (an (codeOf Tryz.f120) 1 122) (a_ x3 DZ En):=bR VL (by kernel_rfl) ag fun y=>by kernel_rfl
abbrev i120:Shape:=⟨[aK 0 .entry],[],64⟩
abbrev To:Shape:=⟨[ao 2],[],64⟩
noncomputable def f120(a:i120.J):Option To.J:=
(f105 ((a.1.1,()),())).bind fun b=>
 bif(!b.1.1) then
 some ((([]:F),()),())
else
(En (((),a.1.1,(a.1.1.length:Int),(0:Int),()),([]:List Int),((),(),()),())).bind fun c=>
 some (((strOf c.2.1),()),())
noncomputable def Vh:aH:=aP aj Tryz.f120 i120 To [] f120
theorem aj8:aF U 120 Vh:=aS VL Tryz.func120 (by kernel_rfl) (a' adF ag) (fun y=>by kernel_rfl) fun a=>by kernel_rfl
abbrev i83:Shape:=⟨[ae 0],[],28⟩
abbrev mE:Shape:=⟨[ao 2],[],28⟩
noncomputable def H9(aV:i83.J->Option mE.J):aH:=aP aj Tryz.f83 i83 mE [] aV
noncomputable abbrev aqz(aV:i83.J->Option mE.J):bh:=[(83,(H9 aV))]
theorem aq7(aV:i83.J->Option mE.J)(fm:aF U 83 (H9 aV)):a7 U (bg aj (aqz aV)):=bf ⟨fm,⟨⟩⟩
noncomputable def oQ(aV:i83.J->Option mE.J)(a:i83.J):Option mE.J:=
 bif(decide (a.1.1<((-9223372036854775807):Int))) then
 some ((([45,57,50,50,51,51,55,50,48,51,54,56,53,52,55,55,53,56,48,56]:F),()),())
else
 bif(decide (a.1.1<(0:Int))) then
(aV (((IntKind.i64.wrap (0-a.1.1)),()),())).bind fun b=>
(bV ([45]:F) b.1.1).bind fun c=>
 some ((c,()),())
else
 bif(decide (a.1.1<(10:Int))) then
 some (((strOf ([(IntKind.u8.wrap (IntKind.i64.wrap ((48:Int)+a.1.1)))]:List Int)),()),())
else
(nC .i64 a.1.1 (10:Int)).bind fun d=>
(aV ((d,()),())).bind fun e=>
(lM a.1.1 (10:Int)).bind fun f=>
(bV e.1.1 (strOf ([(IntKind.u8.wrap (IntKind.i64.wrap ((48:Int)+f)))]:List Int))).bind fun g=>
 some ((g,()),())
theorem ajg(aV:i83.J->Option mE.J)(fm:aF U 83 (H9 aV)):aF U 83 (aP aj Tryz.f83 i83 mE [] (oQ aV)):=aS (aq7 aV fm) Tryz.func83 (by kernel_rfl) ag (fun y=>by kernel_rfl) fun a=>by kernel_rfl
noncomputable def f83:i83.J->Option mE.J:=su oQ AH
noncomputable def B2:aH:=aP aj Tryz.f83 i83 mE [] f83
theorem IA:aF U 83 B2:=agV (ff:=oQ) ajg AH
noncomputable abbrev alG:bh:=[(83,B2)]
theorem amP:a7 U (bg aj alG):=bf ⟨IA,⟨⟩⟩
abbrev i226:Shape:=⟨[cB 0 [ai,bo,bo,ai]],[],45⟩
abbrev Sl:Shape:=⟨[ao 2],[],45⟩
noncomputable def f226(a:i226.J):Option Sl.J:=
 bif(a.1.1.2.1==(1:Int)) then
(f83 ((a.1.1.2.2.1,()),())).bind fun b=>
(bV ([100,105,114,32]:F) b.1.1).bind fun c=>
(bV c ([32]:F)).bind fun d=>
(bV d a.1.1.1).bind fun e=>
(bV e ([10]:F)).bind fun f=>
 some ((f,()),())
else
 bif(a.1.1.2.1==(3:Int)) then
(bV ([108,105,110,107,32]:F) a.1.1.1).bind fun g=>
(bV g ([32]:F)).bind fun h=>
(bV h a.1.1.2.2.2.1).bind fun i=>
(bV i ([10]:F)).bind fun j=>
 some ((j,()),())
else
(f83 ((a.1.1.2.2.1,()),())).bind fun k=>
(bV ([102,105,108,101,32]:F) k.1.1).bind fun l=>
(bV l ([32]:F)).bind fun m=>
(bV m a.1.1.1).bind fun n=>
(bV n ([32]:F)).bind fun B=>
(f83 (((a.1.1.2.2.2.1.length:Int),()),())).bind fun p=>
(bV B p.1.1).bind fun q=>
(bV q ([10]:F)).bind fun r=>
(bV r a.1.1.2.2.2.1).bind fun s=>
(bV s ([10]:F)).bind fun t=>
 some ((t,()),())
noncomputable def Un:aH:=aP aj Tryz.f226 i226 Sl [] f226
theorem z226:aF U 226 Un:=aS amP Tryz.func226 (by kernel_rfl) ag (fun y=>by kernel_rfl) fun a=>by kernel_rfl
noncomputable abbrev alY:bh:=[(226,Un)]
theorem Vx:a7 U (bg aj alY):=bf ⟨z226,⟨⟩⟩
abbrev yy:Shape:=⟨[aK 0 .entry,ao 3,ae 4],[],19⟩
abbrev E0:List aO:=[(.exit 0,⟨[ao 3],[],19⟩)]
noncomputable def y9(y:yy.J):bQ yy E0:=
 bif(decide (y.1.2.2.1<(y.1.1.length:Int))) then
(aU y.1.1 y.1.2.2.1).bind fun a=>
(f226 (((a.path,a.kind,a.mode,a.text,()),()),())).bind fun b=>
(bV y.1.2.1 b.1.1).bind fun c=>
 some (.inl ((y.1.1,c,(IntKind.i64.wrap (y.1.2.2.1+(1:Int))),()),()))
else
 some (.inr ((y.1.2.1,()),()))
noncomputable def FE:yy.J->Option (ay E0):=bx y9
theorem afh:aW U (an (codeOf Tryz.f181) 1 58) (a_ yy E0 FE):=bR Vx (by kernel_rfl) ag fun y=>by kernel_rfl
abbrev i181:Shape:=⟨[aK 0 .entry],[],19⟩
abbrev SP:Shape:=⟨[ao 2],[],19⟩
noncomputable def f181(a:i181.J):Option SP.J:=
(FE ((a.1.1,([]:F),(0:Int),()),())).bind fun b=>
 some ((b.1.1,()),())
noncomputable def Ii:aH:=aP aj Tryz.f181 i181 SP [] f181
theorem RP:aF U 181 Ii:=aS Vx Tryz.func181 (by kernel_rfl) (a' afh ag) (fun y=>by kernel_rfl) fun a=>by kernel_rfl
theorem Oh(m:Nat)(h:m<10):strOf ([(IntKind.u8.wrap (IntKind.i64.wrap ((48:Int)+(m:Int))))]:List Int)=[UInt8.ofNat (48+m)]:=by
 have:IntKind.u8.wrap (IntKind.i64.wrap ((48:Int)+(m:Int)))=((48+m:Nat):Int):=by
  rw[ed (by omega) (by omega),IntKind.wrap_u8];omega
 rw[this];rfl
theorem PF:∀n:Nat,n<10^20->(Lib.decDigits n).length<=20:=by
 have:∀(k n:Nat),n<10^(k+1)->(Lib.decDigits n).length<=k+1:=by
  intro k;induction k with
  |zero=>intro n h;rw[Lib.decDigits,dif_pos (by omega)];simp
  |succ k ih=>
   intro n h;rw[Lib.decDigits];split
   ·simp
   ·have:=ih (n/10) (by rw[Nat.pow_succ] at h;omega)
    simp;omega
 intro n h;exact this 19 n h
theorem py(n:Nat):Lib.itoa (n:Int)=Lib.decDigits n:=by unfold Lib.itoa;rw[if_neg (by omega),Int.toNat_natCast]
theorem na(n:Nat)(h:n<=4611686018427387904):(Lib.itoa (n:Int)).length<=20:=by rw[py];exact PF n (by omega)
theorem acQ:∀(m:Nat),m<=4611686018427387903->∀f:Nat,m<f->su oQ f (((m:Int),()),())=some ((Lib.decDigits m,()),()):=by
 intro m;induction m using Nat.strongRecOn with
 |_ m ih=>
  intro hm f hf;obtain⟨f,rfl⟩:∃arU,f=arU+1:=⟨f-1,by omega⟩
  show oQ (su oQ f) (((m:Int),()),())=_;have h1:decide ((m:Int)< -9223372036854775807)=false:=decide_eq_false (by omega)
  have h2:decide ((m:Int)<0)=false:=decide_eq_false (by omega)
  have h3:decide ((m:Int)<10)=decide (m<10):=by congr 1;apply propext;omega
  rw[Lib.decDigits];by_cases h:m<10
  ·rw[dif_pos h];simp only[oQ,h1,h2,h3,h,decide_true,cond_true,cond_false,Oh m h]
  ·have ar:nC .i64 (m:Int) 10=some ((m/10:Nat):Int):=by exact agW rfl (by omega) (by omega) (by decide)
   have hr:lM (m:Int) 10=some ((m%10:Nat):Int):=by exact Gw (by omega) (by decide)
   rw[dif_neg h];simp only[oQ,h1,h2,h3,h,decide_false,cond_false,ar,hr,Option.bind_some,ih (m/10) (by omega) (by omega) f (by omega),Oh (m%10) (by omega)]
   rw[ee (by have:=PF (m/10) (by omega);simp;omega)]
   rfl
theorem EM(m:Nat)(h:m<=4611686018427387903):f83 (((m:Int),()),())=some ((Lib.itoa (m:Int),()),()):=by
 rw[py];exact acQ m h AH (by unfold AH;omega)
def d_(e:aA):F:=bif e.kind==1 then [100,105,114,32]++Lib.itoa e.mode++[32]++e.path++[10] else bif e.kind==3 then [108,105,110,107,32]++e.path++[32]++e.text++[10]
 else [102,105,108,101,32]++Lib.itoa e.mode++[32]++e.path++[32]++Lib.itoa (e.text.length:Int)++[10]++e.text++[10]
def c_(t:List aA):F:=t.flatMap d_
abbrev n'(e:aA):Prop:=0<=e.mode/\e.mode<=7
theorem FR{e:aA}(h:n' e):(Lib.itoa e.mode).length<=20:=by
 obtain⟨n,hn⟩:=Int.eq_ofNat_of_zero_le h.1;rw[hn];exact na n (by have:=h.2;omega)
theorem Dm{e:aA}(h:n' e)(hb:li e):(d_ e).length<=4194404:=by
 have h1:=FR h;have h2:=na e.text.length (by have:=hb.2;omega)
 have h3:=hb.1;have ax:=hb.2;unfold d_;cases e.kind==1<;>cases e.kind==3<;>simp<;>omega
theorem acN(e:aA)(h:n' e)(hb:li e):f226 (((e.path,(e.kind,(e.mode,(e.text,())))),()),())=some ((d_ e,()),()):=by
 have h1:=FR h;have h2:=na e.text.length (by have:=hb.2;omega)
 have h3:=hb.1;have ax:=hb.2;obtain⟨n,hn⟩:=Int.eq_ofNat_of_zero_le h.1;have d1:=EM n (by have:=h.2;omega)
 rw[<-hn] at d1;have d2:=EM e.text.length (by omega)
 unfold d_;simp only[f226];cases e.kind==1 with
 |true=>
  simp only[cond_true,d1,Option.bind_some];repeat(rw[ee (by simp;omega),Option.bind_some])
 |false=>
  cases e.kind==3 with
  |true=>
   simp only[cond_true,cond_false,Option.bind_some];repeat(rw[ee (by simp;omega),Option.bind_some])
  |false=>
   simp only[cond_false,d1,d2,Option.bind_some];repeat(rw[ee (by simp;omega),Option.bind_some])
theorem ub{aB:Type}{f:aB->F}{n:Nat}:∀{xs:List aB},(∀x,x∈xs->(f x).length<=n)->(xs.flatMap f).length<=xs.length*n:=by
 intro xs;induction xs with
 |nil=>intro _;simp
 |cons x r ih=>
  intro h;have h1:=h x List.mem_cons_self;have h2:=ih fun y hy=>h y (List.mem_cons_of_mem _ hy)
  rw[List.flatMap_cons,List.length_append,List.length_cons,Nat.add_mul];omega
theorem m_{aB:Type}(f:aB->F){xs:List aB}{i:Nat}{x:aB}(h:xs[i]? =some x):(xs.take (i+1)).flatMap f=(xs.take i).flatMap f++f x:=by
 rw[List.take_add_one,h,List.flatMap_append];simp
theorem xb{t:List aA}(hm:∀e,e∈t->n' e)(hb:ij t)(hl:t.length<=16):(c_ t).length<=67110464:=by
 have h1:=ub (f:=d_) (xs:=t) (n:=4194404) fun e he=>Dm (hm e he) (hb.2 e he)
 unfold c_;exact Nat.le_trans h1 (by omega)
theorem tY{aB:Type}{xs:List aB}{i:Nat}{x:aB}(h:x∈xs.take i):x∈xs:=List.mem_of_mem_take h
theorem KZ{t:List aA}(hm:∀e,e∈t->n' e)(hb:ij t)(hl:t.length<=16)(i:Nat):((t.take i).flatMap d_).length<=67110464:=
 xb (t:=t.take i) (fun e he=>hm e (tY he)) ⟨Nat.le_trans (List.take_sublist i t).length_le hb.1,fun e he=>hb.2 e (tY he)⟩ (Nat.le_trans (List.take_sublist i t).length_le hl)
theorem C2(t:List aA)(hm:∀e,e∈t->n' e)(hb:ij t)(hl:t.length<=16):f181 ((t,()),())=some ((c_ t,()),()):=by
 have aD:FE ((t,(([]:F),((0:Int),()))),())=some ((c_ t,()),()):=by
  refine fH (g:=y9) (fun i=>((t,((t.take i).flatMap d_,((i:Int),()))),())) t.length (fun i hi=>?_) ?_ t.length 0 (by omega)
  ·obtain⟨e,he⟩:∃e,t[i]? =some e:=⟨t[i],List.getElem?_eq_getElem hi⟩;have eE:=List.mem_of_getElem? he;have:=KZ hm hb hl i;have h5:=Dm (hm e eE) (hb.2 e eE);simp only[y9,cp hi,cond_true,b6,he,Option.bind_some,acN e (hm e eE) (hb.2 e eE)];rw[ee (by omega),b0 (by unfold aq;omega),m_ d_ he]
   rfl
  ·simp only[y9,dM,cond_false,List.take_length];rfl
 simp only[f181,aD,Option.bind_some]
theorem ry{n a b:Int}(h:within n a b=true):a<=n/\n<=b:=by
 unfold within at h;simpa using h
theorem EC{e:aA}(h:eJ e=true):n' e:=by
 unfold eJ at h;simp only[Bool.and_eq_true] at h;have h:=h.2;cases aD:(e.kind==1) with
 |true=>
  rw[aD] at h;simp only[cond_true,Bool.and_eq_true] at h;exact ry h.1
 |false=>
  cases az:(e.kind==2) with
  |true=>
   rw[aD,az] at h;simp only[cond_true,cond_false,Bool.and_eq_true] at h;exact ry h.1
  |false=>
   rw[aD,az] at h;cases bD:(e.kind==3) with
   |true=>
    rw[bD] at h;simp only[cond_true,cond_false,Bool.and_eq_true,beq_iff_eq] at h;exact⟨by rw[h.1];decide,by rw[h.1];decide⟩
   |false=>rw[bD] at h;cases h
theorem tP{e:aA}(h:eJ e=true):e.kind=1\/e.kind=2\/e.kind=3:=by
 unfold eJ at h;simp only[Bool.and_eq_true] at h;have h:=h.2;cases aD:(e.kind==1) with
 |true=>exact .inl (eq_of_beq aD)
 |false=>
  cases az:(e.kind==2) with
  |true=>exact .inr (.inl (eq_of_beq az))
  |false=>
   cases bD:(e.kind==3) with
   |true=>exact .inr (.inr (eq_of_beq bD))
   |false=>rw[aD,az,bD] at h;cases h
theorem tM{t:List aA}(h:dI t=true):∀e,e∈t->eJ e=true:=by
 intro e he;unfold dI at h;simp only[Bool.and_eq_true] at h;obtain⟨i,hi⟩:=List.getElem?_of_mem he;have:=yh t 0 h.1.1 i e hi;unfold iz at this;simp only[Bool.and_eq_true] at this;exact this.1
theorem pU(xs:List Int)(s:F)(h:aq (xs.length+s.length)):lJ (((),(s,())),(xs,(((),((),())),())))=some (((),((s.length:Int),((),()))),(xs++bytesOf s,(((),((),())),()))):=by
 simp only[lJ];rw[dZ (by decide) (by rw[ji];exact h)]
 rfl
theorem Qs{n:Int}(h:-9223372036854775808<=n/\n<=9223372036854775807):(if-9223372036854775808<=n/\n<=9223372036854775807 then some () else none)=some ():=if_pos h
theorem Z6(t:List aA)(hb:ij t):f120 ((t,()),())=some (((bif dI t then c_ t else []),()),()):=by
 have h0:=pm ((t,()),()) hb;simp only[f120,h0,Option.bind_some];cases ft:dI t with
 |false=>rfl
 |true=>
  have hl:=jj ft;have TU:=tM ft;have hm:∀e,e∈t->n' e:=fun e he=>EC (TU e he)
  have aD:En (((),(t,((t.length:Int),((0:Int),())))),(([]:List Int),(((),((),())),())))=some (((),()),(bytesOf (c_ t),(((),((),())),()))):=by
   refine fH (g:=yf) (fun i=>(((),(t,((t.length:Int),((i:Int),())))),(bytesOf ((t.take i).flatMap d_),(((),((),())),())))) t.length (fun i hi=>?_) ?_ t.length 0 (by omega)
   ·obtain⟨e,he⟩:∃e,t[i]? =some e:=⟨t[i],List.getElem?_eq_getElem hi⟩;have eE:=List.mem_of_getElem? he;have iW:=KZ hm hb hl i;have h5:=Dm (hm e eE) (hb.2 e eE);have h1:=FR (hm e eE);have h2:=na e.text.length (by have:=(hb.2 e eE).2;omega)
    have h3:=(hb.2 e eE).1;have ax:=(hb.2 e eE).2;have atn:=hm e eE;have i1:=Qs (n:=e.mode) ⟨by omega,by omega⟩
    have i2:=Qs (n:=(e.text.length:Int)) ⟨by omega,by omega⟩
    rw[m_ d_ he,pi];simp only[yf,cp hi,cond_true,b6,he,Option.bind_some,i1,i2,b0 (i:=i) (by unfold aq;omega)]
    generalize List.flatMap d_ (List.take i t)=A at iW ⊢;rcases tP (TU e eE) with hk|hk|hk
    ·have e1:d_ e=[100,105,114,32]++Lib.itoa e.mode++[32]++e.path++[10]:=by unfold d_;rw[hk];rfl
     rw[hk,show((1:Int)==1)=true from rfl,cond_true,e1]
     repeat(rw[ee (by simp;omega),Option.bind_some])
     rw[pU _ _ (by unfold aq;rw[ji];simp;omega)]
     rfl
    ·have e1:d_ e=[102,105,108,101,32]++Lib.itoa e.mode++[32]++e.path++[32]++Lib.itoa (e.text.length:Int)++[10]++(e.text++[10]):=by unfold d_;rw[hk];simp
     rw[hk,show((2:Int)==1)=false from rfl,show((2:Int)==2)=true from rfl,cond_false,cond_true,e1]
     repeat(rw[ee (by simp;omega),Option.bind_some])
     rw[pU _ _ (by unfold aq;rw[ji];simp;omega),Option.bind_some]
     rw[ee (by simp;omega),Option.bind_some]
     rw[pU _ _ (by unfold aq;simp[ji];omega),pi _ (e.text++[10]),<-List.append_assoc]
     rfl
    ·have e1:d_ e=[108,105,110,107,32]++e.path++[32]++e.text++[10]:=by unfold d_;rw[hk];rfl
     rw[hk,show((3:Int)==1)=false from rfl,show((3:Int)==2)=false from rfl,show((3:Int)==3)=true from rfl,cond_false,cond_false,cond_true,e1]
     repeat(rw[ee (by simp;omega),Option.bind_some])
     rw[pU _ _ (by unfold aq;rw[ji];simp;omega)]
     rfl
   ·simp only[yf,dM,cond_false,List.take_length];rfl
  simp only[Bool.not_true,cond_false,cond_true,aD,Option.bind_some,wY]
noncomputable abbrev amy:bh:=[(102,vx)]
theorem am9:a7 U (bg aj amy):=bf ⟨AU,⟨⟩⟩
abbrev i119:Shape:=⟨[cB 0 [ai,bo,ai]],[],34⟩
abbrev Tp:Shape:=⟨[ao 2],[],34⟩
noncomputable def f119(a:i119.J):Option Tp.J:=
(f102 (((a.1.1.1,a.1.1.2.1,a.1.1.2.2.1,()),()),())).bind fun b=>
 bif(!b.1.1) then
 some ((([]:F),()),())
else
 bif(a.1.1.2.1==(1:Int)) then
(bV a.1.1.1 ([61]:F)).bind fun c=>
(bV c a.1.1.2.2.1).bind fun d=>
 some ((d,()),())
else
 bif(a.1.1.2.1==(2:Int)) then
(bV a.1.1.1 ([62,61]:F)).bind fun e=>
(bV e a.1.1.2.2.1).bind fun f=>
 some ((f,()),())
else
 bif(a.1.1.2.1==(3:Int)) then
(bV a.1.1.1 ([60]:F)).bind fun g=>
(bV g a.1.1.2.2.1).bind fun h=>
 some ((h,()),())
else
 some ((a.1.1.1,()),())
noncomputable def Vi:aH:=aP aj Tryz.f119 i119 Tp [] f119
theorem z119:aF U 119 Vi:=aS am9 Tryz.func119 (by kernel_rfl) ag (fun y=>by kernel_rfl) fun a=>by kernel_rfl
abbrev i225:Shape:=⟨[ae 0],[],10⟩
abbrev Sm:Shape:=⟨[ao 2],[],10⟩
noncomputable def f225(a:i225.J):Option Sm.J:=
 bif(a.1.1==(1:Int)) then
 some ((([61]:F),()),())
else
 bif(a.1.1==(2:Int)) then
 some ((([62,61]:F),()),())
else
 bif(a.1.1==(3:Int)) then
 some ((([60]:F),()),())
else
 some ((([]:F),()),())
noncomputable def Ia:aH:=aP aj Tryz.f225 i225 Sm [] f225
theorem RL:aF U 225 Ia:=aS g0 Tryz.func225 (by kernel_rfl) ag (fun y=>by kernel_rfl) fun a=>by kernel_rfl
noncomputable abbrev alI:bh:=[(225,Ia)]
theorem amQ:a7 U (bg aj alI):=bf ⟨RL,⟨⟩⟩
abbrev i218:Shape:=⟨[cB 0 [ai,bo,ai]],[],12⟩
abbrev Sp:Shape:=⟨[ao 2],[],12⟩
noncomputable def f218(a:i218.J):Option Sp.J:=
(f225 ((a.1.1.2.1,()),())).bind fun b=>
(bV a.1.1.1 b.1.1).bind fun c=>
(bV c a.1.1.2.2.1).bind fun d=>
 some ((d,()),())
noncomputable def Ib:aH:=aP aj Tryz.f218 i218 Sp [] f218
theorem z218:aF U 218 Ib:=aS amQ Tryz.func218 (by kernel_rfl) ag (fun y=>by kernel_rfl) fun a=>by kernel_rfl
noncomputable abbrev al2:bh:=[(181,Ii),(218,Ib)]
theorem Vy:a7 U (bg aj al2):=bf ⟨RP,z218,⟨⟩⟩
abbrev yA:Shape:=⟨[aM 1 1 0,ao 3,ae 4],[aL 1 [ai,ai,cW .need,cW .entry]],36⟩
abbrev E2:List aO:=[(.exit 0,⟨[aM 1 1 0,ao 3],[aL 1 [ai,ai,cW .need,cW .entry]],36⟩)]
noncomputable def y_(y:yA.J):bQ yA E2:=
 bif(decide (y.1.2.2.1<(y.2.1.2.2.1.length:Int))) then
(bV y.1.2.1 ([110,101,101,100,32]:F)).bind fun a=>
(aU y.2.1.2.2.1 y.1.2.2.1).bind fun b=>
(f218 (((b.name,b.kind,b.a8,()),()),())).bind fun c=>
(bV a c.1.1).bind fun d=>
(bV d ([10]:F)).bind fun e=>
 some (.inl (((),e,(IntKind.i64.wrap (y.1.2.2.1+(1:Int))),()),(y.2.1.1,y.2.1.2.1,y.2.1.2.2.1,y.2.1.2.2.2.1,()),()))
else
 some (.inr (((),y.1.2.1,()),(y.2.1.1,y.2.1.2.1,y.2.1.2.2.1,y.2.1.2.2.2.1,()),()))
noncomputable def FF:yA.J->Option (ay E2):=bx y_
theorem afj:aW U (an (codeOf Tryz.f172) 1 58) (a_ yA E2 FF):=bR Vy (by kernel_rfl) ag fun y=>by kernel_rfl
abbrev i172:Shape:=⟨[cB 0 [ai,ai,cW .need,cW .entry]],[],36⟩
abbrev SS:Shape:=⟨[ao 2],[],36⟩
noncomputable def f172(a:i172.J):Option SS.J:=
(bV ([112,97,99,107,32]:F) a.1.1.1).bind fun b=>
(bV b ([32]:F)).bind fun c=>
(bV c a.1.1.2.1).bind fun d=>
(bV d ([10]:F)).bind fun e=>
(FF (((),e,(0:Int),()),(a.1.1.1,a.1.1.2.1,a.1.1.2.2.1,a.1.1.2.2.2.1,()),())).bind fun f=>
(bV f.1.2.1 ([10]:F)).bind fun g=>
(f181 ((f.2.1.2.2.2.1,()),())).bind fun h=>
(bV g h.1.1).bind fun i=>
 some ((i,()),())
noncomputable def UN:aH:=aP aj Tryz.f172 i172 SS [] f172
theorem ajQ:aF U 172 UN:=aS Vy Tryz.func172 (by kernel_rfl) (a' afj ag) (fun y=>by kernel_rfl) fun a=>by kernel_rfl
noncomputable abbrev amv:bh:=[(172,UN),(173,UM)]
theorem am8:a7 U (bg aj amv):=bf ⟨ajQ,z173,⟨⟩⟩
abbrev i123:Shape:=⟨[cB 0 [ai,ai,cW .need,cW .entry]],[],12⟩
abbrev Tm:Shape:=⟨[ao 2],[],12⟩
noncomputable def f123(a:i123.J):Option Tm.J:=
(f172 (((a.1.1.1,a.1.1.2.1,a.1.1.2.2.1,a.1.1.2.2.2.1,()),()),())).bind fun b=>
(f173 ((b.1.1,()),())).bind fun c=>
(bV ([115,117,109,32]:F) c.1.1).bind fun d=>
(bV d ([10]:F)).bind fun e=>
(bV e b.1.1).bind fun f=>
 some ((f,()),())
noncomputable def Im:aH:=aP aj Tryz.f123 i123 Tm [] f123
theorem RS:aF U 123 Im:=aS am8 Tryz.func123 (by kernel_rfl) ag (fun y=>by kernel_rfl) fun a=>by kernel_rfl
noncomputable abbrev aqE:bh:=[(63,AP),(119,Vi),(120,Vh)]
theorem XX:a7 U (bg aj aqE):=bf ⟨G3,z119,aj8,⟨⟩⟩
abbrev yk:Shape:=⟨[aM 1 1 0,aM 3 3 0,aK 16 .need,ae 17,ae 18],[aL 1 [ai,ai,cW .need,cW .entry],bv 5000193 .u8 3 1,aL 3 [.dj,.own 5000193]],34⟩
abbrev EO:List aO:=[(.exit 0,⟨[aM 1 1 0,aM 3 3 0],[aL 1 [ai,ai,cW .need,cW .entry],bv 5000193 .u8 3 1,aL 3 [.dj,.own 5000193]],34⟩)]
noncomputable def y2(y:yk.J):bQ yk EO:=
 bif(decide (y.1.2.2.2.2.1<y.1.2.2.2.1)) then
(aU y.1.2.2.1 y.1.2.2.2.2.1).bind fun a=>
(f119 (((a.name,a.kind,a.a8,()),()),())).bind fun b=>
(bV ([110,101,101,100,32]:F) b.1.1).bind fun c=>
(bV c ([10]:F)).bind fun d=>
(lJ (((),d,()),y.2.2.1,((),(),()),())).bind fun e=>
 some (.inl (((),(),y.1.2.2.1,y.1.2.2.2.1,(IntKind.i64.wrap (y.1.2.2.2.2.1+(1:Int))),()),(y.2.1.1,y.2.1.2.1,y.2.1.2.2.1,y.2.1.2.2.2.1,()),e.2.1,((),(),()),()))
else
 some (.inr (((),(),()),(y.2.1.1,y.2.1.2.1,y.2.1.2.2.1,y.2.1.2.2.2.1,()),y.2.2.1,((),(),()),()))
noncomputable def Fu:yk.J->Option (ay EO):=bx y2
theorem aeW:aW U (an (codeOf Tryz.f68) 1 122) (a_ yk EO Fu):=bR XX (by kernel_rfl) ag fun y=>by kernel_rfl
abbrev i68:Shape:=⟨[cB 0 [ai,ai,cW .need,cW .entry]],[],34⟩
abbrev Wi:Shape:=⟨[ao 2],[],34⟩
noncomputable def f68(a:i68.J):Option Wi.J:=
(bV ([112,97,99,107,32]:F) a.1.1.1).bind fun b=>
(bV b ([32]:F)).bind fun c=>
(bV c a.1.1.2.1).bind fun d=>
(bV d ([10]:F)).bind fun e=>
(lJ (((),e,()),([]:List Int),((),(),()),())).bind fun f=>
(Fu (((),(),a.1.1.2.2.1,(a.1.1.2.2.1.length:Int),(0:Int),()),(a.1.1.1,a.1.1.2.1,a.1.1.2.2.1,a.1.1.2.2.2.1,()),f.2.1,((),(),()),())).bind fun g=>
(f120 ((g.2.1.2.2.2.1,()),())).bind fun h=>
(bV ([10]:F) h.1.1).bind fun i=>
(lJ (((),i,()),g.2.2.1,((),(),()),())).bind fun j=>
 some (((strOf j.2.1),()),())
noncomputable def XA:aH:=aP aj Tryz.f68 i68 Wi [] f68
theorem anp:aF U 68 XA:=aS XX Tryz.func68 (by kernel_rfl) (a' aeW ag) (fun y=>by kernel_rfl) fun a=>by kernel_rfl
noncomputable abbrev aqS:bh:=[(55,B5),(68,XA),(69,Xz)]
theorem are:a7 U (bg aj aqS):=bf ⟨IC,anp,ano,⟨⟩⟩
abbrev i36:Shape:=⟨[cB 0 [ai,ai,cW .need,cW .entry]],[],15⟩
abbrev Wv:Shape:=⟨[ao 2],[],15⟩
noncomputable def f36(a:i36.J):Option Wv.J:=
(f55 (((a.1.1.1,a.1.1.2.1,a.1.1.2.2.1,a.1.1.2.2.2.1,()),()),())).bind fun b=>
 bif(!b.1.1) then
 some ((([]:F),()),())
else
(f68 (((a.1.1.1,a.1.1.2.1,a.1.1.2.2.1,a.1.1.2.2.2.1,()),()),())).bind fun c=>
(f69 ((c.1.1,()),())).bind fun d=>
(bV ([115,117,109,32]:F) d.1.1).bind fun e=>
(bV e ([10]:F)).bind fun f=>
(bV f c.1.1).bind fun g=>
 some ((g,()),())
noncomputable def JX:aH:=aP aj Tryz.f36 i36 Wv [] f36
theorem VU:aF U 36 JX:=aS are Tryz.func36 (by kernel_rfl) ag (fun y=>by kernel_rfl) fun a=>by kernel_rfl
noncomputable abbrev aqC:bh:=[(83,B2),(123,Im)]
theorem XW:a7 U (bg aj aqC):=bf ⟨IA,RS,⟨⟩⟩
abbrev zK:Shape:=⟨[aM 1 1 0,ao 3,ae 4],[aL 1 [cW .pack]],28⟩
abbrev Gn:List aO:=[(.exit 0,⟨[ao 3],[],28⟩)]
noncomputable def Ac(y:zK.J):bQ zK Gn:=
 bif(decide (y.1.2.2.1<(y.2.1.1.length:Int))) then
(aU y.2.1.1 y.1.2.2.1).bind fun a=>
(f123 (((a.name,a.a8,a.bm,a.bW,()),()),())).bind fun b=>
(f83 (((b.1.1.length:Int),()),())).bind fun c=>
(bV y.1.2.1 c.1.1).bind fun d=>
(bV d ([10]:F)).bind fun e=>
(bV e b.1.1).bind fun f=>
 some (.inl (((),f,(IntKind.i64.wrap (y.1.2.2.1+(1:Int))),()),(y.2.1.1,()),()))
else
 some (.inr ((y.1.2.1,()),()))
noncomputable def GL:zK.J->Option (ay Gn):=bx Ac
theorem ag8:aW U (an (codeOf Tryz.f70) 1 58) (a_ zK Gn GL):=bR XW (by kernel_rfl) ag fun y=>by kernel_rfl
abbrev i70:Shape:=⟨[cB 0 [cW .pack]],[],28⟩
abbrev Wg:Shape:=⟨[ao 2],[],28⟩
noncomputable def f70(a:i70.J):Option Wg.J:=
(GL (((),([]:F),(0:Int),()),(a.1.1.1,()),())).bind fun b=>
 some ((b.1.1,()),())
noncomputable def B4:aH:=aP aj Tryz.f70 i70 Wg [] f70
theorem z70:aF U 70 B4:=aS XW Tryz.func70 (by kernel_rfl) (a' ag8 ag) (fun y=>by kernel_rfl) fun a=>by kernel_rfl
noncomputable abbrev aqR:bh:=[(30,B7),(70,B4)]
theorem ard:a7 U (bg aj aqR):=bf ⟨IE,z70,⟨⟩⟩
abbrev i37:Shape:=⟨[cB 0 [cW .pack]],[],8⟩
abbrev Wu:Shape:=⟨[ao 2],[],8⟩
noncomputable def f37(a:i37.J):Option Wu.J:=
(f30 (((a.1.1.1,()),()),())).bind fun b=>
 bif(!b.1.1) then
 some ((([]:F),()),())
else
(f70 (((a.1.1.1,()),()),())).bind fun c=>
 some ((c.1.1,()),())
noncomputable def aqo:aH:=aP aj Tryz.f37 i37 Wu [] f37
theorem z37:aF U 37 aqo:=aS ard Tryz.func37 (by kernel_rfl) ag (fun y=>by kernel_rfl) fun a=>by kernel_rfl
def dz(k:Int):F:=bif k==1 then [61] else bif k==2 then [62,61] else bif k==3 then [60] else []
theorem MC(k:Int):(dz k).length<=2:=by unfold dz;cases k==1<;>cases k==2<;>cases k==3<;>decide
def cG(n:bB):F:=n.name++dz n.kind++n.a8
theorem No(k:Int):f225 ((k,()),())=some ((dz k,()),()):=by
 simp only[f225,dz];cases k==1<;>cases k==2<;>cases k==3<;>rfl
theorem D6{n:bB}(hb:wq n):(cG n).length<=4194306:=by
 have:=MC n.kind;have h1:=hb.1;have h2:=hb.2;unfold cG;simp;omega
theorem On(n:bB)(hb:wq n):f218 (((n.name,(n.kind,(n.a8,()))),()),())=some ((cG n,()),()):=by
 have:=MC n.kind;have h1:=hb.1;have h2:=hb.2;have aoV:=No n.kind;simp only[f218,aoV,Option.bind_some];rw[ee (by omega),Option.bind_some,ee (by simp;omega)]
 rfl
theorem aam{n:bB}(h:dp n=true)(h1:(n.kind==1)=false)(h2:(n.kind==2)=false)(h3:(n.kind==3)=false):n.a8=[]:=by
 unfold dp at h;simp only[Bool.and_eq_true,Bool.or_eq_true] at h;rcases h.2 with h|h
 ·exact eq_of_beq h.2
 ·have:=ry h.1;simp at h1 h2 h3;omega
theorem aa9(n:bB)(hb:wq n)(ft:dp n=true):f119 (((n.name,(n.kind,(n.a8,()))),()),())=some ((cG n,()),()):=by
 have h0:=xk (((n.name,(n.kind,(n.a8,()))),()),()) hb.1 hb.2;have h0:f102 (((n.name,(n.kind,(n.a8,()))),()),())=some ((dp n,()),()):=h0;have h1:=hb.1;have h2:=hb.2;simp only[f119,h0,ft,Option.bind_some,Bool.not_true,cond_false,cG,dz];cases aD:(n.kind==1) with
 |true=>
  simp only[cond_true];rw[ee (by simp;omega),Option.bind_some,ee (by simp;omega)]
  rfl
 |false=>
  cases az:(n.kind==2) with
  |true=>
   simp only[cond_true,cond_false];rw[ee (by simp;omega),Option.bind_some,ee (by simp;omega)]
   rfl
  |false=>
   cases bD:(n.kind==3) with
   |true=>
    simp only[cond_true,cond_false];rw[ee (by simp;omega),Option.bind_some,ee (by simp;omega)]
    rfl
   |false=>simp only[cond_false,aam ft aD az bD,List.append_nil]
def cF(n:bB):F:=[110,101,101,100,32]++cG n++[10]
theorem abZ{n:bB}(hb:wq n):(cF n).length<=4194312:=by
 have:=D6 hb;unfold cF;simp;omega
def ic(p:ba):F:=[112,97,99,107,32]++p.name++[32]++p.a8++[10]
def de(p:ba):F:=ic p++p.bm.flatMap cF++[10]++c_ p.bW
def bI(p:ba):F:=[115,117,109,32]++oI (de p)++[10]++de p
def fi(s:F):F:=Lib.itoa (s.length:Int)++[10]++s
def dF(ps:List ba):F:=ps.flatMap fun p=>fi (bI p)
theorem mX{p:ba}(h:cH p=true):is p.name=true/\dY p.a8=true/\(∀n,n∈p.bm->dp n=true)/\p.bm.length<=6/\jt [] (p.name::p.bm.map (·.name))=false/\dI p.bW=true:=by
 unfold cH at h;simp only[Bool.and_eq_true] at h;obtain⟨⟨⟨h1,h2⟩,h3⟩,ax⟩:=h;unfold pN at h3;simp only[Bool.and_eq_true,decide_eq_true_eq,List.all_eq_true,Bool.not_eq_true'] at h3;exact⟨h1,h2,h3.1.1,h3.1.2,h3.2,ax⟩
theorem rk{t:List aA}(h:dI t=true):∀e,e∈t->n' e:=fun e he=>EC (tM h e he)
theorem tI{ns:List bB}(hb:sT ns)(hl:ns.length<=6)(i:Nat):((ns.take i).flatMap cF).length<=25165872:=by
 have h1:=ub (f:=cF) (xs:=ns.take i) (n:=4194312) fun n hn=>abZ (hb.2 n (tY hn))
 have h2:=(List.take_sublist i ns).length_le;exact Nat.le_trans h1 (by omega)
theorem DH{p:ba}(hb:ky p)(hk:cH p=true):(de p).length<=100663296:=by
 obtain⟨_,_,_,cl,_,ap⟩:=mX hk;have h1:=tI hb.2.2.1 cl p.bm.length;rw[List.take_length] at h1;have h2:=xb (rk ap) hb.2.2.2 (jj ap);have h3:=hb.1;have ax:=hb.2.1;unfold de ic;generalize p.bm.flatMap cF=A at h1 ⊢;generalize c_ p.bW=bp at h2 ⊢;simp;omega
theorem NY{p:ba}(hb:ky p)(hk:cH p=true):(bI p).length<=100663400:=by
 have:=DH hb hk;unfold bI;generalize de p=bp at this ⊢;simp[D1];omega
theorem acK(p:ba)(hb:ky p)(hk:cH p=true):f172 (((p.name,(p.a8,(p.bm,(p.bW,())))),()),())=some ((de p,()),()):=by
 obtain⟨_,_,hn,cl,_,ap⟩:=mX hk;have h3:=hb.1;have ax:=hb.2.1;have Cf:=C2 p.bW (rk ap) hb.2.2.2 (jj ap);have aph:(ic p).length<=4194320:=by unfold ic;simp;omega
 have aD:FF (((),(ic p,((0:Int),()))),((p.name,(p.a8,(p.bm,(p.bW,())))),()))=some (((),(ic p++p.bm.flatMap cF,())),((p.name,(p.a8,(p.bm,(p.bW,())))),())):=by
  have:=fH (g:=y_) (fun i=>(((),(ic p++(p.bm.take i).flatMap cF,((i:Int),()))),((p.name,(p.a8,(p.bm,(p.bW,())))),()))) p.bm.length (b:=(((),(ic p++p.bm.flatMap cF,())),((p.name,(p.a8,(p.bm,(p.bW,())))),()))) (fun i hi=>?_) ?_ p.bm.length 0 (by omega)
  ·rw[List.take_zero,List.flatMap_nil,List.append_nil] at this;exact this
  ·obtain⟨n,he⟩:∃n,p.bm[i]? =some n:=⟨p.bm[i],List.getElem?_eq_getElem hi⟩;have eE:=List.mem_of_getElem? he;have iW:=tI hb.2.2.1 cl i;have h5:=D6 (hb.2.2.1.2 n eE);simp only[y_,cp hi,cond_true,b6,he,Option.bind_some,On n (hb.2.2.1.2 n eE),m_ cF he,b0 (i:=i) (by unfold aq;omega)]
   generalize List.flatMap cF (List.take i p.bm)=A at iW ⊢;rw[ee (by simp;omega),Option.bind_some,ee (by simp;omega),Option.bind_some,ee (by simp;omega),Option.bind_some]
   simp only[cF,List.append_assoc]
  ·simp only[y_,dM,cond_false,List.take_length]
 have iW:=tI hb.2.2.1 cl p.bm.length;rw[List.take_length] at iW;have h2:=xb (rk ap) hb.2.2.2 (jj ap);have bP:ic p=[112,97,99,107,32]++p.name++[32]++p.a8++[10]:=rfl;simp only[f172];repeat(rw[ee (by simp;omega),Option.bind_some])
 rw[<-bP,aD];simp only[Option.bind_some,de];generalize p.bm.flatMap cF=A at iW ⊢;rw[ee (by simp;omega),Option.bind_some,Cf,Option.bind_some]
 generalize c_ p.bW=bp at h2 ⊢;rw[ee (by simp;omega)]
 rfl
theorem EK(p:ba)(hb:ky p)(hk:cH p=true):f123 (((p.name,(p.a8,(p.bm,(p.bW,())))),()),())=some ((bI p,()),()):=by
 have hl:=DH hb hk;have h1:=aij (de p) (by unfold pe;omega)
 have hs:=D1 (de p);simp only[f123,acK p hb hk,h1,Option.bind_some,bI];generalize oI (de p)=S at hs ⊢;generalize de p=bp at hl ⊢;rw[ee (by simp;omega),Option.bind_some,ee (by simp;omega),Option.bind_some,ee (by simp;omega)]
 rfl
theorem _S(p:ba)(hb:ky p)(hk:cH p=true):f68 (((p.name,(p.a8,(p.bm,(p.bW,())))),()),())=some ((de p,()),()):=by
 obtain⟨_,_,hn,cl,_,ap⟩:=mX hk;have h3:=hb.1;have ax:=hb.2.1;have Cf:=Z6 p.bW hb.2.2.2;rw[ap] at Cf;have aph:(ic p).length<=4194320:=by unfold ic;simp;omega
 have aD:Fu (((),((),(p.bm,((p.bm.length:Int),((0:Int),()))))),((p.name,(p.a8,(p.bm,(p.bW,())))),(bytesOf (ic p),(((),((),())),()))))=some (((),((),())),((p.name,(p.a8,(p.bm,(p.bW,())))),(bytesOf (ic p++p.bm.flatMap cF),(((),((),())),())))):=by
  have:=fH (g:=y2) (fun i=>(((),((),(p.bm,((p.bm.length:Int),((i:Int),()))))),((p.name,(p.a8,(p.bm,(p.bW,())))),(bytesOf (ic p++(p.bm.take i).flatMap cF),(((),((),())),()))))) p.bm.length (b:=(((),((),())),((p.name,(p.a8,(p.bm,(p.bW,())))),(bytesOf (ic p++p.bm.flatMap cF),(((),((),())),()))))) (fun i hi=>?_) ?_ p.bm.length 0 (by omega)
  ·rw[List.take_zero,List.flatMap_nil,List.append_nil] at this;exact this
  ·obtain⟨n,he⟩:∃n,p.bm[i]? =some n:=⟨p.bm[i],List.getElem?_eq_getElem hi⟩;have eE:=List.mem_of_getElem? he;have iW:=tI hb.2.2.1 cl i;have h5:=D6 (hb.2.2.1.2 n eE);simp only[y2,cp hi,cond_true,b6,he,Option.bind_some,aa9 n (hb.2.2.1.2 n eE) (hn n eE),m_ cF he,b0 (i:=i) (by unfold aq;omega)]
   generalize List.flatMap cF (List.take i p.bm)=A at iW ⊢;rw[ee (by simp;omega),Option.bind_some,ee (by simp;omega),Option.bind_some,pU _ _ (by unfold aq;rw[ji];simp;omega),Option.bind_some,<-List.append_assoc,pi (ic p++A)]
   rfl
  ·simp only[y2,dM,cond_false,List.take_length]
 have iW:=tI hb.2.2.1 cl p.bm.length;rw[List.take_length] at iW;have h2:=xb (rk ap) hb.2.2.2 (jj ap);have bP:ic p=[112,97,99,107,32]++p.name++[32]++p.a8++[10]:=rfl;simp only[f68];repeat(rw[ee (by simp;omega),Option.bind_some])
 rw[<-bP,pU _ _ (by unfold aq;simp;omega),Option.bind_some]
 simp only[List.nil_append,aD,Option.bind_some,Cf,cond_true,de];generalize p.bm.flatMap cF=A at iW ⊢;generalize c_ p.bW=bp at h2 ⊢;rw[ee (by simp;omega),Option.bind_some,pU _ _ (by unfold aq;rw[ji];simp;omega),Option.bind_some]
 rw[<-pi,wY,List.append_assoc _ [10] bp]
theorem LN(p:ba)(hb:ky p):f36 (((p.name,(p.a8,(p.bm,(p.bW,())))),()),())=some ((bif cH p then bI p else [],()),()):=by
 have h0:=xj (((p.name,(p.a8,(p.bm,(p.bW,())))),()),()) hb;have h0:f55 (((p.name,(p.a8,(p.bm,(p.bW,())))),()),())=some ((cH p,()),()):=h0;simp only[f36,h0,Option.bind_some];cases hk:cH p with
 |false=>rfl
 |true=>
  have hl:=DH hb hk;have h1:=agJ (de p) (by unfold pe;omega)
  have hs:=D1 (de p);simp only[Bool.not_true,cond_false,cond_true,_S p hb hk,h1,Option.bind_some,bI];generalize oI (de p)=S at hs ⊢;generalize de p=bp at hl ⊢;rw[ee (by simp;omega),Option.bind_some,ee (by simp;omega),Option.bind_some,ee (by simp;omega)]
  rfl
theorem abk{p:ba}(hb:ky p)(hk:cH p=true):(fi (bI p)).length<=100663500:=by
 have h1:=NY hb hk;have h2:=na (bI p).length (by omega)
 unfold fi;simp;omega
theorem Y6{ps:List ba}(hb:kk ps)(hk:∀p,p∈ps->cH p=true)(i:Nat):((ps.take i).flatMap fun p=>fi (bI p)).length<=211106660352000:=by
 have h1:=ub (f:=fun p=>fi (bI p)) (xs:=ps.take i) (n:=100663500) fun p hp=>abk (hb.2 p (tY hp)) (hk p (tY hp))
 have h2:=(List.take_sublist i ps).length_le;have h3:ps.length<=2097152:=hb.1;have ax:(ps.take i).length*100663500<=2097152*100663500:=Nat.mul_le_mul_right _ (by omega)
 omega
theorem Om(ps:List ba)(hb:kk ps)(hk:∀p,p∈ps->cH p=true):f70 (((ps,()),()),())=some ((dF ps,()),()):=by
 have aD:GL (((),(([]:F),((0:Int),()))),((ps,()),()))=some ((dF ps,()),()):=by
  refine fH (g:=Ac) (fun i=>(((),((ps.take i).flatMap (fun p=>fi (bI p)),((i:Int),()))),((ps,()),()))) ps.length (fun i hi=>?_) ?_ ps.length 0 (by omega)
  ·obtain⟨p,he⟩:∃p,ps[i]? =some p:=⟨ps[i],List.getElem?_eq_getElem hi⟩;have eE:=List.mem_of_getElem? he;have iW:=Y6 hb hk i;have h5:=NY (hb.2 p eE) (hk p eE);have h2:=na (bI p).length (by omega)
   have nQ:=hb.1;simp only[Ac,cp hi,cond_true,b6,he,Option.bind_some,EK p (hb.2 p eE) (hk p eE),EM (bI p).length (by omega),m_ (fun p=>fi (bI p)) he,b0 (i:=i) (by unfold aq;omega)]
   generalize List.flatMap (fun p=>fi (bI p)) (List.take i ps)=A at iW ⊢
   rw[ee (by omega),Option.bind_some,ee (by simp;omega),Option.bind_some,ee (by simp;omega),Option.bind_some]
   simp only[fi,List.append_assoc]
  ·simp only[Ac,dM,cond_false,List.take_length];rfl
 simp only[f70,aD,Option.bind_some]
theorem wW{ps:List ba}(h:jK ps=true):(∀p,p∈ps->cH p=true)/\ps.length<=5:=by
 unfold jK at h;simp only[Bool.and_eq_true,decide_eq_true_eq,List.all_eq_true] at h;exact⟨h.1.1.1.1,h.1.1.2⟩
def b5(c:UInt8)(s:F):Prop:=∀x,x∈s->x≠c
theorem b5.cP{c:UInt8}{s t:F}(h:b5 c s)(k:b5 c t):b5 c (s++t):=fun x hx=>(List.mem_append.1 hx).elim (h x) (k x)
theorem b5.nil(c:UInt8):b5 c []:=fun x hx=>by cases hx
theorem b5.tail{c b:UInt8}{s:F}(h:b5 c (b::s)):b5 c s:=fun x hx=>h x (List.mem_cons_of_mem _ hx)
theorem b5.head{c b:UInt8}{s:F}(h:b5 c (b::s)):(b==c)=false:=by
 have:=h b List.mem_cons_self;simpa using this
theorem b5.lit{c:UInt8}{s:F}(h:s.all (fun x=>!(x==c))=true):b5 c s:=fun x hx=>by
 have:=List.all_eq_true.1 h x hx;simpa using this
theorem MA{c:UInt8}:∀{s:F},b5 c s->bJ c s=[s]:=by
 intro s;induction s with
 |nil=>intro _;rfl
 |cons b r ih=>
  intro h;unfold bJ;rw[h.head,ih h.tail];rfl
theorem Lq(c b:UInt8)(r:F):bJ c (b::r)=bif b==c then []::bJ c r else match bJ c r with|x::xs=>(b::x)::xs|[]=>[[b]]:=rfl
theorem rc{c:UInt8}{b:F}:∀{a:F},b5 c a->bJ c (a++c::b)=a::bJ c b:=by
 intro a;induction a with
 |nil=>intro _;show bJ c (c::b)=_;rw[Lq,beq_self_eq_true];rfl
 |cons x r ih=>
  intro h;show bJ c (x::(r++c::b))=_;rw[Lq,h.head,ih h.tail];rfl
theorem LV{c x:UInt8}:∀{s:F},x∈s->x≠c->∃p,p∈bJ c s/\x∈p:=by
 intro s;induction s with
 |nil=>intro h;cases h
 |cons b r ih=>
  intro h hx;unfold bJ;cases hb:b==c with
  |true=>
   have hb:=eq_of_beq hb;rcases List.mem_cons.1 h with rfl|h
   ·exact absurd hb hx
   ·obtain⟨p,h1,h2⟩:=ih h hx;exact⟨p,List.mem_cons_of_mem _ h1,h2⟩
  |false=>
   simp only[cond_false];have hne:=pn c r;split
   ·rename_i y bd hy;rcases List.mem_cons.1 h with rfl|h
    ·exact⟨_,List.mem_cons_self,List.mem_cons_self⟩
    ·obtain⟨p,h1,h2⟩:=ih h hx;rw[hy] at h1;rcases List.mem_cons.1 h1 with rfl|h1
     ·exact⟨_,List.mem_cons_self,List.mem_cons_of_mem _ h2⟩
     ·exact⟨p,List.mem_cons_of_mem _ h1,h2⟩
   ·rename_i hy;exact absurd hy hne
def df(c:UInt8):F->Option (F×F)
 |[]=>none
 |b::r=>bif b==c then some ([],r) else match df c r with
  |some (x,y)=>some (b::x,y)
  |none=>none
theorem age{c:UInt8}:∀{s:F},b5 c s->df c s=none:=by
 intro s;induction s with
 |nil=>intro _;rfl
 |cons b r ih=>intro h;simp only[df,h.head,cond_false,ih h.tail]
theorem rD{c:UInt8}{b:F}:∀{a:F},b5 c a->df c (a++c::b)=some (a,b):=by
 intro a;induction a with
 |nil=>intro _;simp[df]
 |cons x r ih=>intro h;show df c (x::(r++c::b))=_;simp only[df,h.head,cond_false,ih h.tail]
theorem iO{c:UInt8}:∀{s x y:F},df c s=some (x,y)->s=x++c::y/\b5 c x:=by
 intro s;induction s with
 |nil=>intro x y h;cases h
 |cons b r ih=>
  intro x y h;simp only[df] at h;cases hb:b==c with
  |true=>
   rw[hb] at h;simp only[cond_true,Option.some.injEq,Prod.mk.injEq] at h;obtain⟨rfl,rfl⟩:=h;exact⟨by rw[eq_of_beq hb];rfl,b5.nil c⟩
  |false=>
   rw[hb] at h;simp only[cond_false] at h;split at h
   ·rename_i h6 y' hc;cases h;obtain⟨h1,h2⟩:=ih hc;refine⟨by rw[h1];rfl,fun z hz=>?_⟩
    rcases List.mem_cons.1 hz with rfl|hz
    ·simpa using hb
    ·exact h2 z hz
   ·cases h
theorem acx{c:UInt8}:∀{s:F},df c s=none->b5 c s:=by
 intro s;induction s with
 |nil=>intro _;exact b5.nil c
 |cons b r ih=>
  intro h;simp only[df] at h;cases hb:b==c with
  |true=>rw[hb] at h;cases h
  |false=>
   rw[hb] at h;simp only[cond_false] at h;split at h
   ·cases h
   ·rename_i hc;intro z hz;rcases List.mem_cons.1 hz with rfl|hz
    ·simpa using hb
    ·exact ih hc z hz
theorem Pv(c:UInt8):∀s:F,Lib.indexByte s c=match df c s with|some (x,_)=>(x.length:Int)|none=>-1:=by
 intro s;induction s with
 |nil=>rfl
 |cons b r ih=>
  simp only[df];unfold Lib.indexByte;cases hb:b==c with
  |true=>simp
  |false=>
   rw[ih];simp only[cond_false];cases hc:df c r with
   |none=>simp
   |some q=>obtain⟨x,y⟩:=q;simp
theorem LW(c:UInt8)(s:F):bJ c s=match df c s with|some (x,y)=>x::bJ c y|none=>[s]:=by
 cases h:df c s with
 |none=>exact MA (acx h)
 |some q=>
  obtain⟨x,y⟩:=q;obtain⟨h1,h2⟩:=iO h;show bJ c s=x::bJ c y;rw[h1];exact rc h2
theorem Cz{s:F}(h:is s=true):∀x,x∈s->(97<=x.toNat/\x.toNat<=122)\/(48<=x.toNat/\x.toNat<=57):=by
 cases s with
 |nil=>cases h
 |cons b r=>
  rw[Lx] at h;simp only[Bool.and_eq_true] at h;intro x hx;have:=List.all_eq_true.1 h.1.2 x hx;simp only[iA,cI,Bool.or_eq_true,Bool.and_eq_true,decide_eq_true_eq] at this;omega
theorem MT{s:F}(h:is s=true){c:UInt8}(hc:c.toNat<48\/(57<c.toNat/\c.toNat<97)):b5 c s:=fun x hx e=>by
 have:=Cz h x hx;rw[e] at this;omega
theorem Zq{s:F}(h:dY s=true):∀x,x∈s->x=46\/(48<=x.toNat/\x.toNat<=57):=by
 intro x hx;by_cases he:x=46
 ·exact .inl he
 ·obtain⟨p,h1,h2⟩:=LV hx he;unfold dY hQ at h;simp only[Bool.and_eq_true] at h;have:=List.all_eq_true.1 h.1 p h1;unfold fj at this;simp only[Bool.and_eq_true] at this;have:=ir (List.all_eq_true.1 this.1.1.1.1 x h2);exact .inr (by omega)
theorem Mg{s:F}(h:dY s=true){c:UInt8}(hc:c.toNat<48\/57<c.toNat)(Z:c≠46):b5 c s:=fun x hx e=>by
 rcases Zq h x hx with h1|h1
 ·exact Z (e▸h1)
 ·rw[e] at h1;omega
theorem MU{s:F}(h:fT s=true){c:UInt8}(hc:jJ c.toNat=false)(Z:c≠47):b5 c s:=fun x hx e=>by
 subst e;obtain⟨p,h1,h2⟩:=LV hx Z;unfold fT at h;simp only[Bool.and_eq_true] at h;have:=List.all_eq_true.1 h.1 p h1;unfold jQ at this;simp only[Bool.and_eq_true] at this;have:=List.all_eq_true.1 this.1.1.1 x h2;rw[hc] at this;cases this
theorem F':∀n:Nat,(Lib.decDigits n).all cI=true:=by
 intro n;induction n using Nat.strongRecOn with
 |_ n ih=>
  have Z:∀m:Nat,m<10->cI (UInt8.ofNat (48+m))=true:=fun m hm=>by
   unfold cI;have:(UInt8.ofNat (48+m)).toNat=48+m:=by rw[UInt8.toNat_ofNat'];omega
   rw[this];simp;omega
  rw[Lib.decDigits];split
  ·rename_i h;show(cI _&&true)=true;rw[Z n h];rfl
  ·rename_i h;rw[List.all_append,ih (n/10) (by omega)]
   show(true&&(cI _&&true))=true;rw[Z (n%10) (by omega)];rfl
theorem QM(n:Nat):Lib.decDigits n≠[]:=by
 rw[Lib.decDigits];split<;>simp
theorem F_:∀n:Nat,c4 (Lib.decDigits n)=(n:Int):=by
 intro n;induction n using Nat.strongRecOn with
 |_ n ih=>
  have Z:∀m:Nat,m<10->((UInt8.ofNat (48+m)).toNat:Int)-48=(m:Int):=fun m hm=>by
   have:(UInt8.ofNat (48+m)).toNat=48+m:=by rw[UInt8.toNat_ofNat'];omega
   rw[this];omega
  rw[Lib.decDigits];split
  ·rename_i h;show dS 0 _=_;unfold dS;rw[Z n h];omega
  ·rename_i h;have:=ih (n/10) (by omega)
   unfold c4 at this ⊢;rw[List.foldl_append,this];show dS _ _=_;unfold dS;rw[Z (n%10) (by omega)];omega
theorem acw:∀n:Nat,1<=n->∃b r,Lib.decDigits n=b::r/\((b.toNat:Int)==48)=false:=by
 intro n;induction n using Nat.strongRecOn with
 |_ n ih=>
  intro hn;rw[Lib.decDigits];split
  ·rename_i h;refine⟨_,[],rfl,?_⟩;have:(UInt8.ofNat (48+n)).toNat=48+n:=by rw[UInt8.toNat_ofNat'];omega
   rw[this,beq_eq_false_iff_ne];omega
  ·rename_i h;obtain⟨b,r,h1,h2⟩:=ih (n/10) (by omega) (by omega)
   rw[h1];exact⟨b,_,rfl,h2⟩
theorem Od(n:Nat):hS (Lib.decDigits n)=false:=by
 by_cases h:n<10
 ·rw[Lib.decDigits,dif_pos h];rfl
 ·obtain⟨b,r,h1,h2⟩:=acw n (by omega)
  rw[h1];cases r with
  |nil=>rfl
  |cons x r=>exact h2
theorem EE:∀(k n:Nat),n<10^(k+1)->(Lib.decDigits n).length<=k+1:=by
 intro k;induction k with
 |zero=>intro n h;rw[Lib.decDigits,dif_pos (by omega)];simp
 |succ k ih=>
  intro n h;rw[Lib.decDigits];split
  ·simp
  ·have:=ih (n/10) (by rw[Nat.pow_succ] at h;omega)
   simp;omega
theorem ahM(n:Nat){c:UInt8}(hc:c.toNat<48\/57<c.toNat):b5 c (Lib.decDigits n):=fun x hx e=>by
 have:=ir (List.all_eq_true.1 (F' n) x hx);rw[e] at this;omega
theorem Pt(n:Nat){c:UInt8}(hc:c.toNat<48\/57<c.toNat):b5 c (Lib.itoa (n:Int)):=by rw[py];exact ahM n hc
theorem af9:∀k:Nat,k<16->iX k≠10/\iX k≠32:=by decide
theorem Pw(w:Int):b5 10 (fA w):=fun x hx=>by
 simp only[fA,List.mem_cons,List.not_mem_nil,or_false] at hx;rcases hx with rfl|rfl|rfl|rfl|rfl|rfl|rfl|rfl<;>exact(af9 _ (Nat.mod_lt _ (by decide))).1
theorem ON(s:F):b5 10 (oI s):=(Pw _).cP (Pw _)
def ht:F:=[100,105,114]
def hh:F:=[108,105,110,107]
def hT:F:=[102,105,108,101]
def lD(e:aA):List F:=bif e.kind==1 then [ht,Lib.itoa e.mode,e.path] else bif e.kind==3 then [hh,e.path,e.text] else [hT,Lib.itoa e.mode,e.path,Lib.itoa (e.text.length:Int)]
def k0:List F->F
 |[]=>[]
 |[x]=>x
 |x::y::r=>x++32::k0 (y::r)
def oC(e:aA):F:=k0 (lD e)
theorem L5:∀{ws:List F},ws≠[]->(∀w,w∈ws->b5 32 w)->bJ 32 (k0 ws)=ws:=by
 intro ws;induction ws with
 |nil=>intro h;exact absurd rfl h
 |cons x r ih=>
  intro _ h;cases r with
  |nil=>exact MA (h x List.mem_cons_self)
  |cons y r=>
   show bJ 32 (x++32::k0 (y::r))=_;rw[rc (h x List.mem_cons_self),ih (by simp) fun w hw=>h w (List.mem_cons_of_mem _ hw)]
theorem Ps{c:UInt8}(hc:c≠32):∀{ws:List F},(∀w,w∈ws->b5 c w)->b5 c (k0 ws):=by
 intro ws;induction ws with
 |nil=>intro _;exact b5.nil c
 |cons x r ih=>
  intro h;cases r with
  |nil=>exact h x List.mem_cons_self
  |cons y r=>
   refine(h x List.mem_cons_self).cP fun z hz=>?_
   rcases List.mem_cons.1 hz with rfl|hz
   ·exact fun e=>hc e.symm
   ·exact ih (fun w hw=>h w (List.mem_cons_of_mem _ hw)) z hz
theorem aaD{e:aA}(h:eJ e=true):fT e.path=true:=by
 unfold eJ at h;simp only[Bool.and_eq_true] at h;exact h.1
theorem CX{e:aA}(h:eJ e=true)(hk:e.kind=3):fT e.text=true/\e.mode=0:=by
 unfold eJ at h;rw[hk] at h;simp only[Bool.and_eq_true] at h;have h2:((e.mode==0)&&fT e.text)=true:=h.2;simp only[Bool.and_eq_true,beq_iff_eq] at h2;exact⟨h2.2,h2.1⟩
theorem M'{e:aA}(h:eJ e=true)(hk:e.kind=1):e.text=[]:=by
 unfold eJ at h;rw[hk] at h;simp only[Bool.and_eq_true] at h;have h2:(within e.mode 0 7&&e.text==[])=true:=h.2;simp only[Bool.and_eq_true] at h2;exact eq_of_beq h2.2
theorem L9{e:aA}(h:eJ e=true)(hk:e.kind=2):nn e.text=true:=by
 unfold eJ at h;rw[hk] at h;simp only[Bool.and_eq_true] at h;have h2:(within e.mode 0 7&&nn e.text)=true:=h.2;simp only[Bool.and_eq_true] at h2;exact h2.2
theorem D9{e:aA}(h:eJ e=true):∃n:Nat,e.mode=n/\n<=7:=by
 have:=EC h;obtain⟨n,hn⟩:=Int.eq_ofNat_of_zero_le this.1;exact⟨n,hn,by have:=this.2;omega⟩
theorem zS{s:F}(h:fT s=true):b5 32 s:=MU h (by decide) (by decide)
theorem zT{s:F}(h:fT s=true):b5 10 s:=MU h (by decide) (by decide)
theorem GQ(n:Nat):b5 32 (Lib.itoa (n:Int)):=Pt n (by decide)
theorem zW(n:Nat):b5 10 (Lib.itoa (n:Int)):=Pt n (by decide)
theorem C0{e:aA}(h:eJ e=true):(∀w,w∈lD e->b5 32 w)/\∀w,w∈lD e->b5 10 w:=by
 obtain⟨n,hn,_⟩:=D9 h;have hp:=aaD h;unfold lD;rw[hn];rcases tP h with hk|hk|hk<;>rw[hk]
 ·refine⟨fun w hw=>?_,fun w hw=>?_⟩<;>have hw:w∈[ht,Lib.itoa (n:Int),e.path]:=hw<;>simp only[List.mem_cons,List.not_mem_nil,or_false] at hw<;>rcases hw with rfl|rfl|rfl
  ·exact b5.lit (by decide)
  ·exact GQ n
  ·exact zS hp
  ·exact b5.lit (by decide)
  ·exact zW n
  ·exact zT hp
 ·refine⟨fun w hw=>?_,fun w hw=>?_⟩<;>have hw:w∈[hT,Lib.itoa (n:Int),e.path,Lib.itoa (e.text.length:Int)]:=hw<;>simp only[List.mem_cons,List.not_mem_nil,or_false] at hw<;>rcases hw with rfl|rfl|rfl|rfl
  ·exact b5.lit (by decide)
  ·exact GQ n
  ·exact zS hp
  ·exact GQ _
  ·exact b5.lit (by decide)
  ·exact zW n
  ·exact zT hp
  ·exact zW _
 ·have ap:=(CX h hk).1;refine⟨fun w hw=>?_,fun w hw=>?_⟩<;>have hw:w∈[hh,e.path,e.text]:=hw<;>simp only[List.mem_cons,List.not_mem_nil,or_false] at hw<;>rcases hw with rfl|rfl|rfl
  ·exact b5.lit (by decide)
  ·exact zS hp
  ·exact zS ap
  ·exact b5.lit (by decide)
  ·exact zT hp
  ·exact zT ap
theorem adV{e:aA}(h:eJ e=true):b5 10 (oC e):=Ps (by decide) (C0 h).2
def uS(e:aA)(r:F):F:=bif e.kind==2 then e.text++10::r else r
theorem adU{e:aA}(h:eJ e=true)(r:F):d_ e++r=oC e++10::uS e r:=by
 unfold d_ oC lD uS;rcases tP h with hk|hk|hk<;>rw[hk]
 ·simp[k0,ht]
 ·simp[k0,hT]
 ·simp[k0,hh]
theorem M0{e:aA}(h:eJ e=true)(r:F):df 10 (d_ e++r)=some (oC e,uS e r):=by
 rw[adU h];exact rD (adV h)
def ib:F:=[112,97,99,107]
def fx:F:=[110,101,101,100]
def dN(p:ba):F:=k0 [ib,p.name,p.a8]
theorem R1{s:F}(h:is s=true):b5 32 s:=MT h (by decide)
theorem R3{s:F}(h:is s=true):b5 10 s:=MT h (by decide)
theorem RT{s:F}(h:dY s=true):b5 32 s:=Mg h (by decide) (by decide)
theorem RU{s:F}(h:dY s=true):b5 10 s:=Mg h (by decide) (by decide)
theorem CI{p:ba}(h:cH p=true):bJ 32 (dN p)=[ib,p.name,p.a8]:=by
 obtain⟨h1,h2,_⟩:=mX h;refine L5 (by simp) fun w hw=>?_
 simp only[List.mem_cons,List.not_mem_nil,or_false] at hw;rcases hw with rfl|rfl|rfl
 ·exact b5.lit (by decide)
 ·exact R1 h1
 ·exact RT h2
theorem N7{p:ba}(h:cH p=true):b5 10 (dN p):=by
 obtain⟨h1,h2,_⟩:=mX h;refine Ps (by decide) fun w hw=>?_
 simp only[List.mem_cons,List.not_mem_nil,or_false] at hw;rcases hw with rfl|rfl|rfl
 ·exact b5.lit (by decide)
 ·exact R3 h1
 ·exact RU h2
def iv(p:ba):F:=p.bm.flatMap cF++10::c_ p.bW
theorem uc(p:ba):de p=dN p++10::iv p:=by
 unfold de ic dN iv;simp[k0,ib]
theorem Ni{p:ba}(h:cH p=true):df 10 (de p)=some (dN p,iv p):=by rw[uc];exact rD (N7 h)
def eD(p:ba):F:=[115,117,109,32]++oI (de p)
theorem uk(p:ba):bI p=eD p++10::de p:=by unfold bI eD;simp
theorem adJ(p:ba):df 10 (bI p)=some (eD p,de p):=by
 rw[uk];exact rD ((b5.lit (by decide)).cP (ON _))
theorem wX{n:bB}(h:dp n=true):is n.name=true/\((n.kind=0/\n.a8=[])\/((n.kind=1\/n.kind=2\/n.kind=3)/\dY n.a8=true)):=by
 unfold dp at h;simp only[Bool.and_eq_true,Bool.or_eq_true] at h;refine⟨h.1,?_⟩;rcases h.2 with h2|h2
 ·exact .inl ⟨eq_of_beq h2.1,eq_of_beq h2.2⟩
 ·exact .inr ⟨by have:=ry h2.1;omega,h2.2⟩
theorem O7{n:bB}(h:dp n=true):b5 10 (cG n):=by
 obtain⟨h1,h2⟩:=wX h;have hs:b5 10 (dz n.kind):=by unfold dz;cases n.kind==1<;>cases n.kind==2<;>cases n.kind==3<;>exact b5.lit (by decide)
 refine((R3 h1).cP hs).cP ?_
 rcases h2 with⟨_,h2⟩|⟨_,h2⟩
 ·rw[h2];exact b5.nil _
 ·exact RU h2
theorem ab0{n:bB}(h:dp n=true)(r:F):df 10 (cF n++r)=some (fx++32::cG n,r):=by
 have:cF n++r=(fx++32::cG n)++10::r:=by unfold cF fx;simp
 rw[this];refine rD ((b5.lit (by decide)).cP fun z hz=>?_)
 rcases List.mem_cons.1 hz with rfl|hz
 ·decide
 ·exact O7 h z hz
theorem GA(r:F):df 10 (10::r)=some ([],r):=by simp[df]
theorem abY{n:bB}{ns:List bB}{r:F}(h:dp n=true):df 10 ((n::ns).flatMap cF++r)=some (fx++32::cG n,ns.flatMap cF++r):=by
 rw[List.flatMap_cons,List.append_assoc];exact ab0 h _
theorem MB(s r:F):df 10 (fi s++r)=some (Lib.itoa (s.length:Int),s++r):=by
 have:fi s++r=Lib.itoa (s.length:Int)++10::(s++r):=by unfold fi;simp
 rw[this];exact rD (zW _)
def e7(m:Int)(s:F):Bool:=s.all cI&&!(s==[])&&!hS s&&decide (s.length<=9)&&decide (c4 s<=m)
theorem xi(s:F)(m:Int)(hs:aq s.length):f115 ((s,(m,())),())=some ((bif e7 m s then c4 s else 0,(e7 m s,())),()):=by
 have key:s.length<=9->rB ((s,(m,((0:Int),((s.length:Int),((0:Int),()))))),())=some (bif allI (fun i x=>cI x) 0 s then .inr ((m,(c4 s,())),()) else .inl (((0:Int),(false,())),())):=by
  intro hK;have:=ly pF s (fun i n=>((s,(m,(n,((s.length:Int),((i:Int),()))))),())) (fun i x n=>some (bif cI x then .inl (dS n x) else .inr (.inl (((0:Int),(false,())),())))) (fun n=>.inr ((m,(n,())),()))
   (fun i n=>0<=n/\n<10^i/\(i<=9)) (0:Int) ⟨by decide,by decide,by decide⟩ (fun i x n hx dl=>?_) (fun n _=>?_)
  ·exact this.trans (by rw[w1];rfl)
  ·have hi:=dd hx;have hw:aq i:=by unfold aq at*;omega
   obtain⟨h0,h1,cl⟩:=dl;refine⟨?_,fun aG af=>?_⟩
   ·simp only[pF,cp hi,cond_true,xe,b6,hx,Option.bind_some,b0 hw,nV,mN,JK];cases Z:cI x with
    |false=>
     unfold cI at Z;by_cases ax:(48:Int)<=(x.toNat:Int)<;>by_cases bk:(x.toNat:Int)<=57<;>simp[ax,bk] at Z ⊢
    |true=>
     obtain⟨ax,bk⟩:=ir Z;have:=Db (i:=i) Z (by omega) h0 h1
     simp only[ax,bk,decide_true,Bool.not_true,Bool.not_false,cond_true,cond_false,Option.bind_some,b6,hx,this,b0 hw,Bool.and_true,Option.map_some]
   ·simp only[Option.some.injEq] at af;cases ar:cI x with
    |false=>rw[ar] at af;cases af
    |true=>
     rw[ar] at af;simp only[cond_true,Sum.inl.injEq] at af;subst af;have:=CE ar h0 h1;exact⟨this.1,this.2,by omega⟩
  ·simp only[pF,dM,cond_false]
 rw[gC] at key;cases s with
 |nil=>rfl
 |cons b r=>
  have hb:aU (b::r) 0=some b:=rfl;have he:((b::r)==([]:F))=false:=rfl;have hl:decide (((b::r).length:Int)>1)=!(r==[]):=by cases r<;>simp;omega
  have hK:decide (((b::r).length:Int)>9)=!decide ((b::r).length<=9):=by by_cases h:(b::r).length<=9<;>simp only[h,decide_true,decide_false,Bool.not_true,Bool.not_false,decide_eq_true_eq,decide_eq_false_iff_not]<;>omega
  have p1:hS (b::r)=(!(r==[])&&(b.toNat:Int)==48):=by cases r<;>rfl
  simp only[f115,zi,he,hl,hK,Bool.not_false,cond_true,Bool.not_not,hb,Option.bind_some];have fin:(b::r).length<=9->hS (b::r)=false->((rB ((b::r,(m,((0:Int),(((b::r).length:Int),((0:Int),()))))),())).bind fun Hp=>match Hp with
    |.inl u_=>some ((u_.1.1,(u_.1.2.1,())),())
    |.inr qb=>bif decide (qb.1.2.1>qb.1.1) then some (((0:Int),(false,())),()) else some ((qb.1.2.1,(true,())),()))=
    some ((bif e7 m (b::r) then c4 (b::r) else 0,(e7 m (b::r),())),()):=by
   intro hK jz;rw[key hK];unfold e7;rw[he,jz];cases Z:List.all (b::r) cI with
   |false=>rfl
   |true=>
    simp only[cond_true,Option.bind_some,Bool.not_false,Bool.true_and,mN];simp only[hK,decide_true,Bool.true_and];cases decide (c4 (b::r)<=m)<;>rfl
  by_cases ar:(b::r).length<=9
  ·simp only[ar,decide_true,cond_true];cases hr:(r==[]) with
   |true=>
    simp only[Bool.not_true,cond_false,Option.bind_some];exact fin ar (by rw[p1,hr];rfl)
   |false=>
    simp only[Bool.not_false,cond_true,Option.bind_some];cases o8:((b.toNat:Int)==48) with
    |true=>
     have:e7 m (b::r)=false:=by unfold e7;rw[p1,hr,o8];simp
     rw[this];rfl
    |false=>
     simp only[cond_false];exact fin ar (by rw[p1,hr,o8];rfl)
  ·have:e7 m (b::r)=false:=by
    unfold e7;rw[decide_eq_false ar];simp
   simp only[ar,decide_false,cond_false,Option.bind_some,cond_true,this]
theorem adO{n:Nat}{m:Int}(h:(n:Int)<=m)(hK:n<1000000000):e7 m (Lib.decDigits n)=true:=by
 unfold e7;have h1:(Lib.decDigits n==[])=false:=by simpa using QM n
 have h2:=EE 8 n (by omega)
 rw[F',h1,Od,F_,decide_eq_true h2,decide_eq_true h];rfl
theorem aav(n:Nat)(h:n<1000000):f74 ((Lib.itoa (n:Int),()),())=some (((n:Int),()),()):=by
 have h1:(Lib.decDigits n==[])=false:=by simpa using QM n
 have h2:=EE 5 n (by omega)
 have:=EL ((Lib.decDigits n,()),()) (show aq (Lib.decDigits n).length by unfold aq;omega)
 have this:f74 ((Lib.decDigits n,()),())=some ((bif(Lib.decDigits n).all cI&&decide ((Lib.decDigits n).length<=6)&&!(Lib.decDigits n==[])&&!hS (Lib.decDigits n) then c4 (Lib.decDigits n) else-1,()),()):=this
 rw[py,this,F',decide_eq_true h2,h1,Od,F_];rfl
def nu{aB:Type}(B:Option aB)(R:aB->Prop):Prop:=∀a,B=some a <-> R a
theorem nu.akp{aB:Type}{B cU:Option aB}{R:aB->Prop}(h:nu B R)(af:nu cU R):B=cU:=by
 cases B with
 |some a=>exact((af a).2 ((h a).1 rfl)).symm
 |none=>
  cases cU with
  |none=>rfl
  |some a=>exact(h a).2 ((af a).1 rfl)
noncomputable abbrev al8:bh:=[(209,Ic)]
theorem am1:a7 U (bg aj al8):=bf ⟨RM,⟨⟩⟩
abbrev i166:Shape:=⟨[ao 0,ao 1],[],23⟩
abbrev SY:Shape:=⟨[ao 4,ao 5,au 6],[],23⟩
noncomputable def f166(a:i166.J):Option SY.J:=
(f209 ((a.1.1,a.1.2.1,()),())).bind fun b=>
 bif(decide (b.1.1>=(0:Int))) then
(br a.1.1 (0:Int) b.1.1).bind fun c=>
(br a.1.1 (IntKind.i64.wrap (b.1.1+(a.1.2.1.length:Int))) (a.1.1.length:Int)).bind fun d=>
 some ((c,d,true,()),())
else
 some ((a.1.1,([]:F),false,()),())
noncomputable def US:aH:=aP aj Tryz.f166 i166 SY [] f166
theorem ajT:aF U 166 US:=aS am1 Tryz.func166 (by kernel_rfl) ag (fun y=>by kernel_rfl) fun a=>by kernel_rfl
noncomputable abbrev amC:bh:=[(166,US)]
theorem anb:a7 U (bg aj amC):=bf ⟨ajT,⟨⟩⟩
abbrev i114:Shape:=⟨[ao 0,ao 1],[],13⟩
abbrev Tu:Shape:=⟨[ao 4,ao 5,au 6],[],13⟩
noncomputable def f114(a:i114.J):Option Tu.J:=
(f166 ((a.1.1,a.1.2.1,()),())).bind fun b=>
 some ((b.1.1,b.1.2.1,b.1.2.2.1,()),())
noncomputable def vu:aH:=aP aj Tryz.f114 i114 Tu [] f114
theorem AT:aF U 114 vu:=aS anb Tryz.func114 (by kernel_rfl) ag (fun y=>by kernel_rfl) fun a=>by kernel_rfl
noncomputable def RC:aH:=Gc
theorem aib:aF U 250 RC:=ZY (fn:=Tryz.f250) (by kernel_rfl) (by kernel_rfl) (by kernel_rfl) (by kernel_rfl) (by kernel_rfl)
noncomputable abbrev alN:bh:=[(212,Bb),(250,RC)]
theorem Vr:a7 U (bg aj alN):=bf ⟨z212,aib,⟨⟩⟩
abbrev ys:Shape:=⟨[ao 0,ao 1,ae 5],[],34⟩
abbrev EW:List aO:=[(.ret,⟨[ae 4],[],34⟩)]
noncomputable def af3(y:ys.J):bQ ys EW:=
(f212 ((y.1.1,y.1.2.1,()),())).bind fun a=>
 bif(a.1.1==((-1):Int)) then
 some (.inr ((y.1.2.2.1,()),()))
else
(br y.1.1 (IntKind.i64.wrap (a.1.1+(y.1.2.1.length:Int))) (y.1.1.length:Int)).bind fun b=>
 some (.inl ((b,y.1.2.1,(IntKind.i64.wrap (y.1.2.2.1+(1:Int))),()),()))
noncomputable def Pm:ys.J->Option (ay EW):=bx af3
theorem ae7:aW U (an (codeOf Tryz.f211) 1 62) (a_ ys EW Pm):=bR Vr (by kernel_rfl) ag fun y=>by kernel_rfl
abbrev i211:Shape:=⟨[ao 0,ao 1],[],34⟩
abbrev Sv:Shape:=⟨[ae 4],[],34⟩
noncomputable def f211(a:i211.J):Option Sv.J:=
 bif((a.1.2.1.length:Int)==(0:Int)) then
 none
else
 bif((a.1.2.1.length:Int)==(1:Int)) then
(aU a.1.2.1 (0:Int)).bind fun b=>
(some ()).bind fun c=>
 some ((((Lib.countByte a.1.1 (b.toNat:Int).toNat.toUInt8:Nat):Int),()),())
else
(Pm ((a.1.1,a.1.2.1,(0:Int),()),())).bind fun d=>
 some ((d.1.1,()),())
noncomputable def Uu:aH:=aP aj Tryz.f211 i211 Sv [] f211
theorem ajB:aF U 211 Uu:=aS Vr Tryz.func211 (by kernel_rfl) (a' ae7 ag) (fun y=>by kernel_rfl) fun a=>by kernel_rfl
noncomputable abbrev al7:bh:=[(211,Uu),(212,Bb)]
theorem Ir:a7 U (bg aj al7):=bf ⟨ajB,z212,⟨⟩⟩
abbrev O2:Shape:=⟨[ao 0,ao 1,ae 2,ae 3],[],66⟩
abbrev OJ:List aO:=[(.norm,⟨[ao 0,ao 1,ae 2,ae 3],[],66⟩)]
noncomputable def za(y:O2.J):Option (ay OJ):=
 bif(decide (y.1.2.2.2.1<(0:Int))) then
(f211 ((y.1.1,y.1.2.1,()),())).bind fun a=>
 some ((y.1.1,y.1.2.1,y.1.2.2.1,(IntKind.i64.wrap (a.1.1+(1:Int))),()),())
else
 some ((y.1.1,y.1.2.1,y.1.2.2.1,y.1.2.2.2.1,()),())
theorem afm:aW U (an (codeOf Tryz.f167) 1 30) (a_ O2 OJ za):=cS Ir (by kernel_rfl) ag fun y=>by kernel_rfl
abbrev xt:Shape:=⟨[ao 0,ao 1,ae 2,ae 3,bc 9 3000576,ae 10],[bb 3000576 .str 9 0],66⟩
abbrev C6:List aO:=[(.exit 0,⟨[ao 0,bc 9 3000576,ae 10],[bb 3000576 .str 9 0],66⟩)]
noncomputable def xE(y:xt.J):bQ xt C6:=
 bif(decide (y.1.2.2.2.2.2.1<y.1.2.2.2.1)) then
(f212 ((y.1.1,y.1.2.1,()),())).bind fun a=>
 bif(decide (a.1.1<(0:Int))) then
 some (.inr ((y.1.1,(),y.1.2.2.2.2.2.1,()),y.2.1,()))
else
(br y.1.1 (0:Int) (IntKind.i64.wrap (a.1.1+y.1.2.2.1))).bind fun b=>
(a6 y.2.1.length y.1.2.2.2.2.2.1).bind fun c=>
((y.2.1[c]?).bind fun q=>some b).bind fun d=>
(br y.1.1 (IntKind.i64.wrap (a.1.1+(y.1.2.1.length:Int))) (y.1.1.length:Int)).bind fun e=>
 some (.inl ((e,y.1.2.1,y.1.2.2.1,y.1.2.2.2.1,(),(IntKind.i64.wrap (y.1.2.2.2.2.2.1+(1:Int))),()),(y.2.1.set c d),()))
else
 some (.inr ((y.1.1,(),y.1.2.2.2.2.2.1,()),y.2.1,()))
noncomputable def tS:xt.J->Option (ay C6):=bx xE
theorem abH:aW U (an (codeOf Tryz.f167) 1 2044) (a_ xt C6 tS):=bR Ir (by kernel_rfl) ag fun y=>by kernel_rfl
abbrev i167:Shape:=⟨[ao 0,ao 1,ae 2,ae 3],[],66⟩
abbrev SX:Shape:=⟨[aK 8 .str],[],66⟩
noncomputable def f167(a:i167.J):Option SX.J:=
 bif(a.1.2.2.2.1==(0:Int)) then
 some ((([]:List F),()),())
else
 bif(a.1.2.1==([]:F)) then
 none
else
(za ((a.1.1,a.1.2.1,a.1.2.2.1,a.1.2.2.2.1,()),())).bind fun b=>
(jx 16 (k7 b.1.2.2.2.1 (IntKind.i64.wrap ((b.1.1.length:Int)+(1:Int)))) (k7 b.1.2.2.2.1 (IntKind.i64.wrap ((b.1.1.length:Int)+(1:Int)))) ([]:F)).bind fun c=>
(tS ((b.1.1,b.1.2.1,b.1.2.2.1,(IntKind.i64.wrap ((k7 b.1.2.2.2.1 (IntKind.i64.wrap ((b.1.1.length:Int)+(1:Int))))-(1:Int))),(),(0:Int),()),c,())).bind fun d=>
(a6 d.2.1.length d.1.2.2.1).bind fun e=>
((d.2.1[e]?).bind fun q=>some d.1.1).bind fun f=>
(br (d.2.1.set e f) (0:Int) (IntKind.i64.wrap (d.1.2.2.1+(1:Int)))).bind fun g=>
 some ((g,()),())
noncomputable def Ij:aH:=aP aj Tryz.f167 i167 SX [] f167
theorem z167:aF U 167 Ij:=aS Ir Tryz.func167 (by kernel_rfl) (a' afm (a' abH ag)) (fun y=>by kernel_rfl) fun a=>by kernel_rfl
noncomputable abbrev amB:bh:=[(167,Ij)]
theorem ana:a7 U (bg aj amB):=bf ⟨z167,⟨⟩⟩
abbrev i116:Shape:=⟨[ao 0,ao 1],[],8⟩
abbrev Ts:Shape:=⟨[aK 4 .str],[],8⟩
noncomputable def f116(a:i116.J):Option Ts.J:=
(f167 ((a.1.1,a.1.2.1,(0:Int),((-1):Int),()),())).bind fun b=>
 some ((b.1.1,()),())
noncomputable def Vl:aH:=aP aj Tryz.f116 i116 Ts [] f116
theorem z116:aF U 116 Vl:=aS ana Tryz.func116 (by kernel_rfl) ag (fun y=>by kernel_rfl) fun a=>by kernel_rfl
abbrev i251:Shape:=⟨[ao 0,ao 1],[],18⟩
abbrev Sf:Shape:=⟨[au 4],[],18⟩
noncomputable def f251(a:i251.J):Option Sf.J:=
 bif(decide ((a.1.1.length:Int)>=(a.1.2.1.length:Int))) then
(br a.1.1 (0:Int) (a.1.2.1.length:Int)).bind fun b=>
 some (((b==a.1.2.1),()),())
else
 some ((false,()),())
noncomputable def H':aH:=aP aj Tryz.f251 i251 Sf [] f251
theorem RJ:aF U 251 H':=aS g0 Tryz.func251 (by kernel_rfl) ag (fun y=>by kernel_rfl) fun a=>by kernel_rfl
noncomputable abbrev alL:bh:=[(251,H')]
theorem amT:a7 U (bg aj alL):=bf ⟨RJ,⟨⟩⟩
abbrev i213:Shape:=⟨[ao 0,ao 1],[],15⟩
abbrev St:Shape:=⟨[ao 4,au 5],[],15⟩
noncomputable def f213(a:i213.J):Option St.J:=
(f251 ((a.1.1,a.1.2.1,()),())).bind fun b=>
 bif(!b.1.1) then
 some ((a.1.1,false,()),())
else
(br a.1.1 (a.1.2.1.length:Int) (a.1.1.length:Int)).bind fun c=>
 some ((c,true,()),())
noncomputable def Ut:aH:=aP aj Tryz.f213 i213 St [] f213
theorem z213:aF U 213 Ut:=aS amT Tryz.func213 (by kernel_rfl) ag (fun y=>by kernel_rfl) fun a=>by kernel_rfl
noncomputable abbrev al6:bh:=[(213,Ut)]
theorem am0:a7 U (bg aj al6):=bf ⟨z213,⟨⟩⟩
abbrev i168:Shape:=⟨[ao 0,ao 1],[],11⟩
abbrev SW:Shape:=⟨[ao 4,au 5],[],11⟩
noncomputable def f168(a:i168.J):Option SW.J:=
(f213 ((a.1.1,a.1.2.1,()),())).bind fun b=>
 some ((b.1.1,b.1.2.1,()),())
noncomputable def UR:aH:=aP aj Tryz.f168 i168 SW [] f168
theorem z168:aF U 168 UR:=aS am0 Tryz.func168 (by kernel_rfl) ag (fun y=>by kernel_rfl) fun a=>by kernel_rfl
noncomputable abbrev alK:bh:=[(251,H')]
theorem amS:a7 U (bg aj alK):=bf ⟨RJ,⟨⟩⟩
abbrev i215:Shape:=⟨[ao 0,ao 1],[],8⟩
abbrev Ss:Shape:=⟨[au 4],[],8⟩
noncomputable def f215(a:i215.J):Option Ss.J:=
(f251 ((a.1.1,a.1.2.1,()),())).bind fun b=>
 some ((b.1.1,()),())
noncomputable def Us:aH:=aP aj Tryz.f215 i215 Ss [] f215
theorem ajA:aF U 215 Us:=aS amS Tryz.func215 (by kernel_rfl) ag (fun y=>by kernel_rfl) fun a=>by kernel_rfl
noncomputable abbrev alJ:bh:=[(167,Ij)]
theorem amR:a7 U (bg aj alJ):=bf ⟨z167,⟨⟩⟩
abbrev i216:Shape:=⟨[ao 0,ao 1,ae 2],[],11⟩
abbrev Sr:Shape:=⟨[aK 6 .str],[],11⟩
noncomputable def f216(a:i216.J):Option Sr.J:=
(f167 ((a.1.1,a.1.2.1,(0:Int),a.1.2.2.1,()),())).bind fun b=>
 some ((b.1.1,()),())
noncomputable def Ur:aH:=aP aj Tryz.f216 i216 Sr [] f216
theorem ajz:aF U 216 Ur:=aS amR Tryz.func216 (by kernel_rfl) ag (fun y=>by kernel_rfl) fun a=>by kernel_rfl
def gM(c:UInt8)(s:F):F:=match df c s with|some (x,_)=>x|none=>s
def gL(c:UInt8)(s:F):F:=match df c s with|some (_,y)=>y|none=>[]
theorem Nn(c:UInt8)(r:F):f209 ((r,([c],())),())=some ((Lib.indexByte r c,()),()):=by
 have h0:aU ([c]:F) (0:Int)=some c:=rfl;have h1:((([c]:F).length:Int)==0)=false:=rfl;have h2:((([c]:F).length:Int)==1)=true:=rfl;have h3:((c.toNat:Int)).toNat.toUInt8=c:=by simp
 simp only[f209,y4,f244,h0,h1,h2,h3,Bool.not_false,cond_true,cond_false,Option.bind_some,Option.bind];by_cases h:(([c]:F)==r)=true
 ·have:r=[c]:=(by simpa using h:[c]=r).symm
  subst this;simp[Lib.indexByte]<;>rfl
 ·simp[h]<;>rfl
theorem mq(c:UInt8)(s:F)(hs:aq s.length):f114 ((s,([c],())),())=some ((gM c s,(gL c s,((df c s).isSome,()))),()):=by
 have hi:=Nn c s;rw[Pv] at hi;unfold gM gL;simp only[f114,f166,hi,Option.bind_some];cases h:df c s with
 |none=>rfl
 |some q=>
  obtain⟨x,y⟩:=q;obtain⟨h1,_⟩:=iO h;have hl:s.length=x.length+1+y.length:=by rw[h1];simp;omega
  have Z:decide (((x.length:Nat):Int)>=0)=true:=decide_eq_true (by omega)
  have hw:IntKind.i64.wrap (((x.length:Nat):Int)+((([c]:F).length:Nat):Int))=((x.length+1:Nat):Int):=by
   rw[ed (by simp;omega) (by unfold aq at hs;simp;omega)];simp
  have e1:br s 0 ((x.length:Nat):Int)=some x:=by rw[hO (by omega),h1];simp
  have e2:br s ((x.length+1:Nat):Int) ((s.length:Nat):Int)=some y:=by
   rw[gl (by omega)]
   congr 1
   rw[h1,show x++c::y=(x++[c])++y by simp,List.drop_left' (by simp)]
  simp only[Z,cond_true,e1,hw,e2,Option.bind_some,Option.isSome_some]
def dJ(p s:F):Option F:=bif decide (p.length<=s.length)&&s.take p.length==p then some (s.drop p.length) else none
theorem Li(s p:F):f251 ((s,(p,())),())=some (((dJ p s).isSome,()),()):=by
 have Z:decide (((s.length:Nat):Int)>=((p.length:Nat):Int))=decide (p.length<=s.length):=by congr 1;apply propext;omega
 unfold dJ;simp only[f251,Z];cases h:decide (p.length<=s.length) with
 |false=>rfl
 |true=>
  rw[cond_true,hO (of_decide_eq_true h)];simp only[Option.bind_some,Bool.true_and];cases (s.take p.length==p)<;>rfl
theorem Zw(s p:F):f215 ((s,(p,())),())=some (((dJ p s).isSome,()),()):=by
 have:=Li s p;simp only[f215,this,Option.bind_some]
theorem Lj(s p:F):f168 ((s,(p,())),())=some (((dJ p s).getD s,((dJ p s).isSome,())),()):=by
 have h0:=Li s p;simp only[f168,f213,h0,Option.bind_some];unfold dJ;cases h:decide (p.length<=s.length)&&s.take p.length==p with
 |false=>rfl
 |true=>
  simp only[Bool.and_eq_true,decide_eq_true_eq] at h;have e:br s ((p.length:Nat):Int) ((s.length:Nat):Int)=some (s.drop p.length):=gl h.1;simp only[cond_true,Option.isSome_some,Bool.not_true,cond_false,e,Option.bind_some,Option.getD_some]
theorem tX(p r:F):dJ p (p++r)=some r:=by
 unfold dJ;rw[decide_eq_true (by simp)]
 simp
def splitN(c:UInt8):Nat->F->List F
 |0,s=>[s]
 |k+1,s=>match df c s with
  |some (x,y)=>x::splitN c k y
  |none=>[s]
theorem w5(c:UInt8):∀(k:Nat) (s:F),(bJ c s).length<=k+1->splitN c k s=bJ c s:=by
 intro k;induction k with
 |zero=>
  intro s h;rw[LW] at h ⊢;cases hc:df c s with
  |none=>rfl
  |some q=>
   obtain⟨x,y⟩:=q;rw[hc] at h;have:=pn c y;cases hy:bJ c y with
   |nil=>exact absurd hy this
   |cons z zs=>simp[hy] at h
 |succ k ih=>
  intro s h;rw[LW] at h ⊢;unfold splitN;cases hc:df c s with
  |none=>rfl
  |some q=>
   obtain⟨x,y⟩:=q;rw[hc] at h;simp only[List.length_cons] at h;show x::splitN c k y=x::bJ c y;rw[ih y (by omega)]
theorem LS(c:UInt8)(k:Nat)(s:F):1<=(splitN c k s).length:=by
 cases k with
 |zero=>simp[splitN]
 |succ k=>unfold splitN;split<;>simp
theorem w4(c:UInt8):∀(k:Nat) (s:F),s.length<=k->splitN c k s=bJ c s:=fun k s h=>w5 c k s (by have:=rb c s;omega)
theorem D3{aB:Type}:∀(a:List aB) (i:Nat) (x:aB),i<a.length->(a.set i x).take (i+1)=a.take i++[x]:=by
 intro a;induction a with
 |nil=>intro i x h;simp at h
 |cons b a ih=>
  intro i x h;cases i with
  |zero=>rfl
  |succ i=>
   have:=ih i x (by simpa using h)
   simp only[List.set_cons_succ,List.take_succ_cons,List.cons_append,this]
theorem Pz(c:UInt8)(N:Nat)(eP:aq N):∀(m i:Nat) (s:F) (a:List F),i+m+1=N->a.length=N->aq s.length->s.length+i<=1099511627776->
  ∃(aG:F) (j:Nat) (cL:List F),tS ((s,([c],((0:Int),(((N-1:Nat):Int),((),((i:Int),())))))),(a,()))=some ((aG,((),((j:Int),()))),(cL,()))/\j<N/\cL.length=N/\(cL.set j aG).take (j+1)=a.take i++splitN c m s:=by
 intro m;induction m with
 |zero=>
  intro i s a hi ha hs _;refine⟨s,i,a,cm ?_,by omega,ha,?_⟩
  ·have:decide ((i:Int)<((N-1:Nat):Int))=false:=decide_eq_false (by omega)
   simp only[xE,this,cond_false]
  ·rw[D3 a i s (by omega)];rfl
 |succ m ih=>
  intro i s a hi ha hs hb;have hlt:decide ((i:Int)<((N-1:Nat):Int))=true:=decide_eq_true (by omega)
  have hx:=Nn c s;have hx:f212 ((s,([c],())),())=some ((Lib.indexByte s c,()),()):=by simp only[f212,hx,Option.bind_some]
  rw[Pv] at hx;cases hc:df c s with
  |none=>
   rw[hc] at hx;refine⟨s,i,a,cm ?_,by omega,ha,?_⟩
   ·have:decide ((-1:Int)<0)=true:=rfl;simp only[xE,hlt,cond_true,hx,Option.bind_some,this]
   ·rw[D3 a i s (by omega)];simp only[splitN,hc]
  |some q=>
   obtain⟨x,y⟩:=q;rw[hc] at hx;obtain⟨h1,_⟩:=iO hc;have hl:s.length=x.length+1+y.length:=by rw[h1];simp;omega
   obtain⟨aG,j,cL,g1,g2,g3,g4⟩:=ih (i+1) y (a.set i x) (by omega) (by simp[ha]) (by unfold aq at hs ⊢;omega) (by omega)
   refine⟨aG,j,cL,?_,g2,g3,?_⟩
   ·refine(dD ?_).trans g1;have Z:decide (((x.length:Nat):Int)<0)=false:=decide_eq_false (by omega)
    have O:IntKind.i64.wrap (((x.length:Nat):Int)+0)=((x.length:Nat):Int):=by unfold aq at hs;rw[ed (by omega) (by omega)];omega
    have aN:IntKind.i64.wrap (((x.length:Nat):Int)+((([c]:F).length:Nat):Int))=((x.length+1:Nat):Int):=by
     unfold aq at hs;rw[ed (by simp;omega) (by simp;omega)];simp
    have e1:br s 0 ((x.length:Nat):Int)=some x:=by rw[hO (by omega),h1];simp
    have e2:br s ((x.length+1:Nat):Int) ((s.length:Nat):Int)=some y:=by
     rw[gl (by omega)]
     congr 1
     rw[h1,show x++c::y=(x++[c])++y by simp,List.drop_left' (by simp)]
    have bz:a6 a.length (i:Int)=some i:=fS (by omega)
    have dw:a[i]? =some (a[i]'(by omega)):=List.getElem?_eq_getElem (by omega)
    simp only[xE,hlt,cond_true,hx,Option.bind_some,Z,cond_false,O,e1,bz,dw,aN,e2,b0 (i:=i) (by unfold aq;omega)]
   ·rw[g4,D3 a i x (by omega)]
    simp only[splitN,hc,List.append_assoc,List.cons_append,List.nil_append]
theorem _H(c:UInt8):∀s:F,(bJ c s).length=Lib.countByte s c+1:=by
 intro s;induction s with
 |nil=>rfl
 |cons b r ih=>
  unfold bJ Lib.countByte;rw[List.count_cons];unfold Lib.countByte at ih;cases hb:b==c with
  |true=>simp[ih]
  |false=>
   simp only[cond_false];have hne:=pn c r;cases hy:bJ c r with
   |nil=>exact absurd hy hne
   |cons y bd=>rw[hy] at ih;simpa using ih
theorem _X(c:UInt8)(s:F)(n N:Nat)(hs:s.length<=1000000000)(h1:1<=n)(eP:min n (s.length+1)=N):
  f167 ((s,([c],((0:Int),((n:Int),())))),())=some ((splitN c (N-1) s,()),()):=by
 have qA:((n:Int)==0)=false:=by rw[beq_eq_false_iff_ne];omega
 have hc0:(([c]:F)==[])=false:=rfl;have hneg:decide ((n:Int)<0)=false:=decide_eq_false (by omega)
 have hw:IntKind.i64.wrap (((s.length:Nat):Int)+1)=((s.length+1:Nat):Int):=by rw[ed (by omega) (by omega)];omega
 have hm:k7 (n:Int) ((s.length+1:Nat):Int)=(N:Int):=by unfold k7;split<;>omega
 have Jh:jx 16 (N:Int) (N:Int) ([]:F)=some (List.replicate N []):=Qm (by decide) (by unfold aq;omega)
 have hw1:IntKind.i64.wrap ((N:Int)-1)=((N-1:Nat):Int):=by rw[ed (by omega) (by omega)];omega
 obtain⟨aG,j,cL,g1,g2,g3,g4⟩:=Pz c N (by unfold aq;omega) (N-1) 0 s (List.replicate N []) (by omega) (by simp) (by unfold aq;omega) (by omega)
 have g1:tS ((s,([c],((0:Int),(((N-1:Nat):Int),((),((0:Int),())))))),(List.replicate N ([]:F),()))=_:=g1;have e1:a6 cL.length (j:Int)=some j:=fS (by omega)
 have e2:cL[j]? =some (cL[j]'(by omega)):=List.getElem?_eq_getElem (by omega)
 have bz:br (cL.set j aG) 0 ((j+1:Nat):Int)=some (splitN c (N-1) s):=by
  rw[hO (by simp;omega),g4];simp
 simp only[f167,qA,hc0,cond_false,za,hneg,Option.bind_some,hw,hm,Jh,hw1,g1,e1,e2,b0 (i:=j) (by unfold aq;omega),bz]
theorem Mi(s:F)(hs:s.length<=1000000000):f216 ((s,([32],((5:Int),()))),())=some ((splitN 32 4 s,()),()):=by
 have h:=_X 32 s 5 _ hs (by decide) rfl
 have h:f167 ((s,(([32]:F),((0:Int),((5:Int),())))),())=_:=h;simp only[f216,h,Option.bind_some];congr 3
 by_cases ax:4<=s.length
 ·rw[show min 5 (s.length+1)-1=4 by omega]
 ·rw[w4 32 _ s (by omega),w4 32 4 s (by omega)]
theorem Mj(s:F)(hs:s.length<=1000000000):f116 ((s,([32],())),())=some ((bJ 32 s,()),()):=by
 have hcs:=_H 32 s;have hl:=rb 32 s;have qA:((-1:Int)==0)=false:=rfl;have hc0:(([32]:F)==[])=false:=rfl;have hneg:decide ((-1:Int)<0)=true:=rfl;have ala:f211 ((s,(([32]:F),())),())=some (((Lib.countByte s 32:Int),()),()):=rfl;have BH:IntKind.i64.wrap ((Lib.countByte s 32:Int)+1)=(((bJ 32 s).length:Nat):Int):=by rw[ed (by omega) (by omega)];omega
 have hw:IntKind.i64.wrap (((s.length:Nat):Int)+1)=((s.length+1:Nat):Int):=by rw[ed (by omega) (by omega)];omega
 generalize eP:(bJ 32 s).length=N at BH hcs hl;have hm:k7 (N:Int) ((s.length+1:Nat):Int)=(N:Int):=by unfold k7;split<;>omega
 have Jh:jx 16 (N:Int) (N:Int) ([]:F)=some (List.replicate N []):=Qm (by decide) (by unfold aq;omega)
 have hw1:IntKind.i64.wrap ((N:Int)-1)=((N-1:Nat):Int):=by rw[ed (by omega) (by omega)];omega
 obtain⟨aG,j,cL,g1,g2,g3,g4⟩:=Pz 32 N (by unfold aq;omega) (N-1) 0 s (List.replicate N []) (by omega) (by simp) (by unfold aq;omega) (by omega)
 have g1:tS ((s,(([32]:F),((0:Int),(((N-1:Nat):Int),((),((0:Int),())))))),(List.replicate N ([]:F),()))=_:=g1;have e1:a6 cL.length (j:Int)=some j:=fS (by omega)
 have e2:cL[j]? =some (cL[j]'(by omega)):=List.getElem?_eq_getElem (by omega)
 have bz:br (cL.set j aG) 0 ((j+1:Nat):Int)=some (bJ 32 s):=by
  rw[hO (by simp;omega),g4,w5 32 (N-1) s (by omega)];simp
 simp only[f116,f167,qA,hc0,cond_false,za,hneg,cond_true,ala,Option.bind_some,BH,hw,hm,Jh,hw1,g1,e1,e2,b0 (i:=j) (by unfold aq;omega),bz]
end Go.Proofs
namespace Go.Proofs
open Go.Shelf Go.RowKit Go.Lib
variable {P:Program}{ρ:Ren}
abbrev oS(s:ByteArray):Prop:=∀(j:Nat) b,s.data.toList[j]? =some b->b.toNat<128
theorem aeg{r:Int}(h0:128<=r):2<=(Utf8.encode r).size/\∀j (h:j<(Utf8.encode r).size),0<j->128<=((Utf8.encode r)[j]'h).toNat:=by
 unfold Utf8.encode;generalize hc:(if Utf8.valid r then r.toNat else Utf8.runeError)=c
 have hc1:128<=c:=by
  rw[<-hc];split
  ·omega
  ·decide
 simp only[];have k:∀x:Nat,128<=128+x%64/\128+x%64<256:=fun x=>by omega
 repeat' split
 all_goals first|omega|skip
 ·refine⟨by show 2<=2;decide,fun j h hj=>?_⟩
  have hj2:j<2:=h;have:j=1:=by omega
  subst this;show 128<=(UInt8.ofNat (128+c%64)).toNat;rw[UInt8.toNat_ofNat'];have:=k c;omega
 ·refine⟨by show 2<=3;decide,fun j h hj=>?_⟩
  have hj2:j<3:=h;have:j=1\/j=2:=by omega
  rcases this with rfl|rfl
  ·show 128<=(UInt8.ofNat (128+c/64%64)).toNat;rw[UInt8.toNat_ofNat'];have:=k (c/64);omega
  ·show 128<=(UInt8.ofNat (128+c%64)).toNat;rw[UInt8.toNat_ofNat'];have:=k c;omega
 ·refine⟨by show 2<=4;decide,fun j h hj=>?_⟩
  have hj2:j<4:=h;have:j=1\/j=2\/j=3:=by omega
  rcases this with rfl|rfl|rfl
  ·show 128<=(UInt8.ofNat (128+c/4096%64)).toNat;rw[UInt8.toNat_ofNat'];have:=k (c/4096);omega
  ·show 128<=(UInt8.ofNat (128+c/64%64)).toNat;rw[UInt8.toNat_ofNat'];have:=k (c/64);omega
  ·show 128<=(UInt8.ofNat (128+c%64)).toNat;rw[UInt8.toNat_ofNat'];have:=k c;omega
theorem Y8{l:List UInt8}{b:UInt8}(h:∀x,x∈l->x.toNat<128)(hb:128<=b.toNat):Lib.indexByte l b=-1:=by
 induction l with
 |nil=>rfl
 |cons x r ih=>
  have h1:=h x List.mem_cons_self;have h2:=ih fun y hy=>h y (List.mem_cons_of_mem _ hy)
  have h3:(x==b)=false:=by
   rw[beq_eq_false_iff_ne];rintro rfl;omega
  unfold Lib.indexByte;rw[h2,h3];rfl
set_option maxHeartbeats 4000000 in
set_option maxRecDepth 1000000 in
theorem Any.Zi(L:Lays.n152 P ρ)(s:ByteArray)(w:World)(ha:oS s):
  Calls P (ρ.f 152) #[.string s,.int .i32 65533] w fun e w'=>e=.returned (.int .i64 (-1))/\∃pos,w'=w.iter s pos:=by
 have HA:Aside (oS s):=ha;clear ha;have t3:=L.t3;have a3:=L.a3;have z3:=L.z3;have v3:=L.v3;have t4:=L.t4;have a4:=L.a4;have z4:=L.z4;have v4:=L.v4;have t5:=L.t5;have a5:=L.a5;have z5:=L.z5;have v5:=L.v5;have t9:=L.t9;have a9:=L.a9;have z9:=L.z9;have v9:=L.v9;have t21:=L.t21;have a21:=L.a21;have z21:=L.z21;have v21:=L.v21;go_enter L.f152,Body.n152_ntmps ρ
 go_wp2
 go_loopg [5,6] s.size (fun g _ _ wx=>∃i:Nat,i+g=s.size/\wx=w.iter s i)
 case atStart=>exact⟨0,by omega,rfl⟩
 case round=>
  obtain⟨i,hig,rfl⟩:=hrel;cases gk with
  |zero=>
   obtain rfl:i=s.size:=by omega
   have hnx:=run_next_end (P:=P) w s s.size
   go_wp2
   go_ret
   exact⟨rfl,_,rfl⟩
  |succ g=>
   have hi:i<s.size:=by omega
   obtain⟨x,hx⟩:∃x:UInt8,s[i]'hi=x:=⟨_,rfl⟩;have hxl:s.data.toList[i]? =some x:=by rw[<-hx];exact Lib.data_getElem? s i hi
   have hx128:x.toNat<128:=HA.out i x hxl;have hnx:=fun ty=>run_next_ascii (P:=P) w s i ty hi (by rw[hx];exact hx128)
   rw[hx] at hnx;clear hxl hx;have hne:((x.toNat:Int)==65533)=false:=by rw[beq_eq_false_iff_ne];omega
   go_wp2
   go_roundg g
   case measure=>omega
   case rel=>exact⟨i+1,by omega,rfl⟩
set_option maxHeartbeats 8000000 in
set_option maxRecDepth 1000000 in
theorem Any.Y7(L:Lays.n152 P ρ)(s:ByteArray)(r:Int)(w:World)(h0:128<=r)(h1:r<=2147483647)(hne:r≠65533)(hs:s.size<=1000000)(ha:oS s):
  Calls P (ρ.f 152) #[.string s,.int .i32 r] w fun e w'=>e=.returned (.int .i64 (-1))/\Below w.heap.size w w':=by
 have HA:Aside (oS s):=ha;clear ha;have t3:=L.t3;have a3:=L.a3;have z3:=L.z3;have v3:=L.v3;have t4:=L.t4;have a4:=L.a4;have z4:=L.z4;have v4:=L.v4;have t5:=L.t5;have a5:=L.a5;have z5:=L.z5;have v5:=L.v5;have t9:=L.t9;have a9:=L.a9;have z9:=L.z9;have v9:=L.v9;have t21:=L.t21;have a21:=L.a21;have z21:=L.z21;have v21:=L.v21;have e119:∀args w,(callFunc (ρ.f 119) args).run P w=.ok (.enter (ρ.f 119) args) w:=enters_of L.f119 (by kernel_rfl) rfl
 have e137:∀args w,(callFunc (ρ.f 137) args).run P w=.ok (.enter (ρ.f 137) args) w:=enters_of L.f137 (by kernel_rfl) rfl
 have b1:¬(r<128):=by omega
 have b2:(0:Int)<=r:=by omega
 have b3:(r==65533)=false:=by rw[beq_eq_false_iff_ne];exact hne
 obtain⟨hE,hB⟩:=aeg h0;cases hv:Lib.validRune r with
 |false=>
  go_enter L.f152,Body.n152_ntmps ρ
  go_wp2_with (go_at_fn (ρ.f 119);refine(Any.utf8_ValidRune {L with} _ _).mono ?_;rintro e w' ⟨rfl,hw⟩;rw[hw,hv])
  go_ret
  exact⟨rfl,Below.refl _ _⟩
 |true=>
  have mixed:=L.mixed;have s21:(P.underlying (ρ.t 21)).isSome=true:=by rw[L.t21];rfl
  have hcv:=fun w=>run_convert_int_string (P:=P) w (ρ.t 21) (ρ.t 9) .i32 r s21 L.t9
  have hRs:(Utf8.encode r).size<=4:=encode_size_le r;generalize hR:Utf8.encode r=R at hE hB hcv hRs;clear hR;obtain⟨n,hn⟩:∃n:Nat,R.size=n+1:=⟨R.size-1,by omega⟩
  have hidx:(R.size:Int)-1=(n:Int):=by omega
  go_enter L.f152,Body.n152_ntmps ρ
  go_wp2_with (go_at_fn (ρ.f 119);refine(Any.utf8_ValidRune {L with} _ _).mono ?_;rintro e w' ⟨rfl,hw⟩;rw[hw,hv])
  go_step3
  go_wp2
  refine wp_loop_rounds 1 ?_
  rw[rounds_succ]
  go_wp2
  ·have hlt:(n:Int)<(s.size:Int):=by omega
   have hns:n<s.size:=by omega
   have hnR:n<R.size:=by omega
   have hx:=HA.out n _ (Lib.data_getElem? s n hns);have hy:=hB n hnR (by omega)
   obtain⟨x,hxe⟩:∃x:UInt8,s[n]'hns=x:=⟨_,rfl⟩;obtain⟨y,hye⟩:∃y:UInt8,R[n]'hnR=y:=⟨_,rfl⟩;rw[hxe] at hx;rw[hye] at hy;have g1:=fun w=>run_index_string (P:=P) w (ρ.t 9) s .i64 (n:Int) L.t9
   have g2:=fun w=>run_index_string (P:=P) w (ρ.t 9) R .i64 (n:Int) L.t9
   simp only[show(0:Int)<=(n:Int)/\(n:Int)<(s.size:Int) from⟨by omega,hlt⟩,dif_pos,Int.toNat_natCast,hxe] at g1
   simp only[show(0:Int)<=(n:Int)/\(n:Int)<(R.size:Int) from⟨by omega,by omega⟩,dif_pos,Int.toNat_natCast,hye] at g2
   go_step3
   go_wp2
   go_region_o
   have hxy:((x.toNat:Int)==(y.toNat:Int))=false:=by rw[beq_eq_false_iff_ne];omega
   have hxy':¬x.toNat=y.toNat:=by omega
   go_wp2
   have hsm:indexByte (List.take (s.size-(n+1)) (List.drop (n+1) s.data.toList)) y=-1:=by
    refine Y8 (fun z hz=>?_) hy
    obtain⟨k,hk⟩:=List.getElem?_of_mem (List.mem_of_mem_drop (List.mem_of_mem_take hz));exact HA.out k z hk
   have hb1:(n:Int)+1<=(s.size:Int):=by omega
   have hb0:(0:Int)<=(n:Int)+1:=by omega
   have hb2:¬((s.size:Int)<(n:Int)+1):=by omega
   have hbn:n+1<=s.size:=by omega
   have hsl1:∀w,(Instr.slice (ρ.t 9) (.string s) (some (.int .i64 ((n:Int)+1))) none none).run P w=.ok (.string (s.extract (n+1) s.size)) w:=fun w=>by
    rw[run_slice_string_from_if w (ρ.t 9) s .i64 _ L.t9,if_pos ⟨by omega,by omega⟩]
    rfl
   have hw1:IntKind.i64.wrap ((n:Int)+1)=(n:Int)+1:=by rw[IntKind.wrap_i64];omega
   have hsl2:∀w,(Instr.slice (ρ.t 9) (.string s) (some (.int .i64 (IntKind.i64.wrap ((n:Int)+1)))) none none).run P w=.ok (.string (s.extract (n+1) s.size)) w:=fun w=>by rw[hw1];exact hsl1 w
   go_region_with_o (go_at_fn (ρ.f 137);refine(Any.strings_IndexByte {L with} _ _ _).mono ?_;rintro e w' ⟨rfl,hw⟩;rw[hw])
   go_wp2
   rw[Exit.noGoto_ret];simp only[Exit.inBlock,Exit.then]
   rw[Exit.noGoto_ret];simp only[Exit.inBlock,Exit.then]
   go_ret
   exact⟨rfl,(Below.refl _ _).drew.drew⟩
  ·rw[Exit.noGoto_ret];go_ret
   exact⟨rfl,Below.refl _ _⟩
theorem _G(s:ByteArray)(pos:Nat)(h:pos<s.size)(ha:128<=(s[pos]'h).toNat):∀j,j<(Utf8.decode s pos).2->pos+j<s.size/\∀b,s.data.toList[pos+j]? =some b->128<=b.toNat:=by
 have g:∀k (hk:pos+k<s.size) b,s.data.toList[pos+k]? =some b->s.get! (pos+k)=b:=fun k hk b hb=>by
  have e:=Lib.data_getElem? s (pos+k) hk;rw[hb] at e;have:=get_at s (pos+k) hk;rw[Nat.add_zero] at this;rw[this];exact(Option.some.inj e).symm
 have z:∀b,s.data.toList[pos+0]? =some b->128<=b.toNat:=fun b hb=>by
  have e:=Lib.data_getElem? s pos h;rw[Nat.add_zero,e] at hb;rw[<-Option.some.inj hb];exact ha
 have c:∀k,(decide (pos+k<s.size)&&(s.get! (pos+k)).toNat/64==2)=true->pos+k<s.size/\∀b,s.data.toList[pos+k]? =some b->128<=b.toNat:=fun k hk=>by
  simp only[Bool.and_eq_true,decide_eq_true_eq,beq_iff_eq] at hk;refine⟨hk.1,fun b hb=>?_⟩
  have:=g k hk.1 b hb;rw[this] at hk;omega
 have one:∀j,j<1->pos+j<s.size/\∀b,s.data.toList[pos+j]? =some b->128<=b.toNat:=fun j hj=>by
  obtain rfl:j=0:=by omega
  exact⟨h,z⟩
 have hn:¬(s[pos]'h).toNat<128:=by omega
 simp only[Utf8.decode,get_at s pos h,hn,if_false];split
 ·rename_i h2;simp only[Bool.and_eq_true] at h2;have c1:=c 1 (by simpa using h2.2)
  split
  ·intro j hj;have:j=0\/j=1:=by simp only at hj;omega
   rcases this with rfl|rfl
   ·exact⟨h,z⟩
   ·exact c1
  ·exact one
 ·split
  ·rename_i h2;simp only[Bool.and_eq_true] at h2;have c1:=c 1 (by simpa using h2.1.2)
   have c2:=c 2 (by simpa using h2.2)
   split
   ·intro j hj;have:j=0\/j=1\/j=2:=by simp only at hj;omega
    rcases this with rfl|rfl|rfl
    ·exact⟨h,z⟩
    ·exact c1
    ·exact c2
   ·exact one
  ·split
   ·rename_i h2;simp only[Bool.and_eq_true] at h2;have c1:=c 1 (by simpa using h2.1.1.2)
    have c2:=c 2 (by simpa using h2.1.2)
    have c3:=c 3 (by simpa using h2.2)
    split
    ·intro j hj;have:j=0\/j=1\/j=2\/j=3:=by simp only at hj;omega
     rcases this with rfl|rfl|rfl|rfl
     ·exact⟨h,z⟩
     ·exact c1
     ·exact c2
     ·exact c3
    ·exact one
   ·exact one
theorem Any.ZP(L:Lays.n152 P ρ)(s:ByteArray)(r:Int)(w:World)(h0:128<=r)(h1:r<=2147483647)(hs:s.size<=1000000)(ha:oS s):
  Calls P (ρ.f 152) #[.string s,.int .i32 r] w fun e w'=>e=.returned (.int .i64 (-1))/\Below w.heap.size w w':=by
 by_cases hne:r=65533
 ·subst hne;exact(Any.Zi L s w ha).mono fun e w' ⟨h,pos,h2⟩=>⟨h,h2▸(Below.refl _ _).alloc (Nat.le_refl _) _⟩
 ·exact Any.Y7 L s r w h0 h1 hne hs ha
set_option maxHeartbeats 8000000 in
set_option maxRecDepth 1000000 in
theorem Any.YZ(L:Lays.n153 P ρ)(s chars:ByteArray)(w:World)(h2:2<=chars.size)(h8:s.size<=8)(hcs:chars.size<=1000000)(hac:oS chars):
  Calls P (ρ.f 153) #[.string s,.string chars] w fun e w'=>e=.returned (.int .i64 (Lib.indexAny s.data.toList chars.data.toList))/\Below w.heap.size w w':=by
 have HA:Aside (oS chars):=hac;clear hac;have hemp:chars.toList.isEmpty=false:=by
  rw[Lib.toList_data];cases h:chars.data.toList with
  |nil=>have:=Lib.size_eq chars;rw[h,List.length_nil] at this;omega
  |cons _ _=>rfl
 have hn1:((chars.size:Int)==1)=false:=beq_eq_false_iff_ne.2 (by omega)
 have h8z:decide ((8:Int)<(s.size:Int))=false:=decide_eq_false (by omega)
 have t3:=L.t3;have a3:=L.a3;have z3:=L.z3;have v3:=L.v3;have t4:=L.t4;have a4:=L.a4;have z4:=L.z4;have v4:=L.v4;have t5:=L.t5;have a5:=L.a5;have z5:=L.z5;have v5:=L.v5;have t9:=L.t9;have a9:=L.a9;have z9:=L.z9;have v9:=L.v9;have t21:=L.t21;have a21:=L.a21;have z21:=L.z21;have v21:=L.v21;have e152:∀args w,(callFunc (ρ.f 152) args).run P w=.ok (.enter (ρ.f 152) args) w:=enters_of L.f152 (by kernel_rfl) rfl
 have e226:∀args w,(callFunc (ρ.f 226) args).run P w=.ok (.enter (ρ.f 226) args) w:=enters_of L.f226 (by kernel_rfl) rfl
 go_enter L.f153,Body.n153_ntmps ρ
 go_wp2_with (go_at_fn (ρ.f 226);refine(Any.strings_shouldUseASCIISet {L with} _ _).mono ?_;rintro e w' ⟨rfl,hw⟩;rw[hw,h8z])
 go_loopg [9,10] s.size (fun g _ _ wx=>∃i:Nat,i<=s.size/\s.size-i<=g/\wx.heap[w.heap.size]? =some (.stringIter s i)/\Aside (Below w.heap.size w wx)/\Aside (Lib.NoAny s.data.toList chars.data.toList i))
 case atStart=>exact⟨0,by omega,by omega,World.iter_heap _ _ _,(Below.refl _ _).alloc (Nat.le_refl _) _,Lib.NoAny.zero _ _⟩
 case round=>
  obtain⟨i,hi,hg,hk,pg,HN⟩:=hrel;by_cases hlt:i<s.size
  ·obtain⟨x,hx⟩:∃x:UInt8,s[i]'hlt=x:=⟨_,rfl⟩;have hxl:s.data.toList[i]? =some x:=by rw[<-hx];exact Lib.data_getElem? s i hlt
   have Hx:Aside (s.data.toList[i]? =some x):=hxl;have hkl:=(Array.getElem?_eq_some_iff.1 hk).1;by_cases hx128:x.toNat<128
   ·have hnx:=fun ty=>run_next_ascii_at (P:=P) _ w.heap.size s i ty hk hlt (by rw[hx];exact hx128)
    rw[hx] at hnx;have hio:=iterAt_heap _ w.heap.size s i (i+1) hk;have hbo:Aside (Below w.heap.size w _):=below_iterAt pg.out (Nat.le_refl _) s (i+1);clear hxl hx;have hcon:=Lib.contains_iff_indexByte chars.data.toList x;have hback:((x.toNat:Int)).toNat.toUInt8=x:=by simp
    cases hin:chars.data.toList.contains x
    ·rw[hin] at hcon;have hlt2:¬((0:Int)<=Lib.indexByte chars.data.toList x):=of_decide_eq_false hcon.symm;clear hcon
     go_wp2_with (go_at_fn (ρ.f 152);refine(Any.strings_IndexRune_ascii {L with} _ _ _ (by omega) (by omega)).mono ?_;rintro e w' ⟨rfl,hw⟩;rw[hw,hback])
     go_roundg (s.size-(i+1))
     case measure=>omega
     case rel=>exact⟨i+1,by omega,by omega,hio,hbo,HN.out.succ Hx.out hin⟩
    ·rw[hin] at hcon;have hge:(0:Int)<=Lib.indexByte chars.data.toList x:=of_decide_eq_true hcon.symm;clear hcon
     go_wp2_with (go_at_fn (ρ.f 152);refine(Any.strings_IndexRune_ascii {L with} _ _ _ (by omega) (by omega)).mono ?_;rintro e w' ⟨rfl,hw⟩;rw[hw,hback])
     go_ret
     exact⟨by rw[Lib.indexAny_hit HN.out Hx.out hin];rfl,hbo.out⟩
   ·have hhi:128<=(s[i]'hlt).toNat:=by rw[hx];omega
    have hnx:=fun ty=>run_next_any_at (P:=P) _ w.heap.size s i ty hk hlt
    have hd1:=decode_high s i hlt hhi;have hd2:=decode_le s i;have hsk:Aside (∀j,j<(Utf8.decode s i).2->i+j<s.size/\∀b,s.data.toList[i+j]? =some b->128<=b.toNat):=_G s i hlt hhi;generalize(Utf8.decode s i).1=c at hnx hd1 hd2;generalize(Utf8.decode s i).2=d at hnx hd1 hsk;have hle:i+d<=s.size:=by
     have:=(hsk.out (d-1) (by omega)).1
     omega
    have hio:=iterAt_heap _ w.heap.size s i (i+d) hk;have hbo:Aside (Below w.heap.size w _):=below_iterAt pg.out (Nat.le_refl _) s (i+d);have hno:Aside (Lib.NoAny s.data.toList chars.data.toList (i+d)):=fun j b hj hb=>by
     by_cases hji:j<i
     ·exact HN.out j b hji hb
     ·have h3:=(hsk.out (j-i) (by omega)).2 b (by rw[show i+(j-i)=j by omega];exact hb)
      cases hc:chars.data.toList.contains b with
      |false=>rfl
      |true=>
       have hm:b∈chars.data.toList:=by simpa using hc
       obtain⟨k,hk2⟩:=List.getElem?_of_mem hm;have:=HA.out k b hk2;omega
    have hneg:¬((0:Int)<=-1):=by decide
    have hc0:(128:Int)<=(c:Int):=by omega
    have hc1:((c:Nat):Int)<=2147483647:=by omega
    clear hxl hx
    go_wp2_with (go_at_fn (ρ.f 152);refine(Any.ZP {L with} _ _ _ hc0 hc1 hcs HA.out).mono ?_;rintro e w' ⟨rfl,hbw⟩)
    go_roundg (s.size-(i+d))
    case measure=>omega
    case rel=>exact⟨i+d,hle,by omega,(hbw.block _ (by simpa[iterAt_size] using hkl)).trans hio,hbo.out.trans (hbw.mono (by rw[iterAt_size];omega)),hno.out⟩
  ·obtain rfl:i=s.size:=by omega
   have hnx:=fun ty=>run_next_end_at (P:=P) _ w.heap.size s s.size ty hk (by omega)
   go_wp2
   go_ret
   exact⟨by rw[Lib.indexAny_none (by rw[<-Lib.size_eq];exact HN.out)];rfl,pg.out⟩
theorem Any.ZR(L:Lays.n153 P ρ)(h116:(P.info? (ρ.t 116)).map (fun i=>(i.zero,i.size))=some (some (.agg (Array.replicate 256 (.bool false))),256))(s chars:ByteArray)(w:World)(hs:s.size<4294967281)(h2:2<=chars.size)(hcs:chars.size<=1000000)(hac:oS chars):
  Calls P (ρ.f 153) #[.string s,.string chars] w fun e w'=>e=.returned (.int .i64 (Lib.indexAny s.data.toList chars.data.toList))/\Below w.heap.size w w':=by
 by_cases h8:s.size<=8
 ·exact Any.YZ L s chars w h2 h8 hcs hac
 ·refine(Any.strings_IndexAny_long L (zero_of_info h116).1 (zero_of_info h116).2 s chars w h2 (by omega) hs (by omega) hac).mono fun e w' ⟨h1,h2⟩=>⟨h1,?_⟩
  rw[h2];exact((Below.refl _ _).alloc (Nat.le_refl _) _).alloc (by simp) _
end Go.Proofs
namespace Go.Proofs
open Go.Jk
noncomputable def RE:aH:=CR
theorem aid:aF U 214 RE:=acj (fun _ _=>enters_of Tryz.func214 (by kernel_rfl) rfl _ _) fun s p w h1 h2 h3 ax=>Any.ZR Tryz.afT (by kernel_rfl) s p w h1 h2 h3 ax
noncomputable abbrev al5:bh:=[(102,vx),(214,RE),(215,Us)]
theorem Vz:a7 U (bg aj al5):=bf ⟨AU,aid,ajA,⟨⟩⟩
abbrev O1:Shape:=⟨[ao 0,aM 2 2 0,aM 4 4 0],[aL 2 [ai,bo,ai],aL 4 [ai,bo,ai]],49⟩
abbrev OI:List aO:=[(.norm,⟨[aM 2 2 0,aM 4 4 0],[aL 2 [ai,bo,ai],aL 4 [ai,bo,ai]],49⟩),(.ret,⟨[aM 2 2 0,au 3],[aL 2 [ai,bo,ai]],49⟩)]
noncomputable def mj(y:O1.J):Option (ay OI):=
(p_ y.1.1 ([61,60,62]:F)).bind fun a=>
 bif(decide ((Lib.indexAny y.1.1 ([61,60,62]:F))>=(0:Int))) then
(br y.1.1 (0:Int) (Lib.indexAny y.1.1 ([61,60,62]:F))).bind fun b=>
(br y.1.1 (Lib.indexAny y.1.1 ([61,60,62]:F)) (y.1.1.length:Int)).bind fun c=>
(f215 ((c,([62,61]:F),()),())).bind fun d=>
 bif d.1.1 then
(br c (2:Int) (c.length:Int)).bind fun e=>
 some (.inl (((),(),()),(y.2.1.1,y.2.1.2.1,y.2.1.2.2.1,()),(b,(2:Int),e,()),()))
else
(aU c (0:Int)).bind fun f=>
 bif((f.toNat:Int)==(61:Int)) then
(br c (1:Int) (c.length:Int)).bind fun g=>
 some (.inl (((),(),()),(y.2.1.1,y.2.1.2.1,y.2.1.2.2.1,()),(b,(1:Int),g,()),()))
else
(aU c (0:Int)).bind fun h=>
 bif((h.toNat:Int)==(60:Int)) then
(br c (1:Int) (c.length:Int)).bind fun i=>
 some (.inl (((),(),()),(y.2.1.1,y.2.1.2.1,y.2.1.2.2.1,()),(b,(3:Int),i,()),()))
else
 some (.inr (((),false,()),(([]:F),(0:Int),([]:F),()),()))
else
 some (.inl (((),(),()),(y.2.1.1,y.2.1.2.1,y.2.1.2.2.1,()),(y.2.2.1.1,y.2.2.1.2.1,y.2.2.1.2.2.1,()),()))
theorem afl:aW U (an (codeOf Tryz.f169) 1 14) (a_ O1 OI mj):=cS Vz (by kernel_rfl) ag fun y=>by kernel_rfl
abbrev i169:Shape:=⟨[ao 0],[],49⟩
abbrev SV:Shape:=⟨[aM 2 2 0,au 3],[aL 2 [ai,bo,ai]],49⟩
noncomputable def f169(a:i169.J):Option SV.J:=
(mj ((a.1.1,(),(),()),(([]:F),(0:Int),([]:F),()),(a.1.1,(0:Int),([]:F),()),())).bind fun b=>
(match b with
|.inl c=>
(f102 (((c.2.2.1.1,c.2.2.1.2.1,c.2.2.1.2.2.1,()),()),())).bind fun d=>
 bif(!d.1.1) then
 some (((),false,()),(([]:F),(0:Int),([]:F),()),())
else
 some (((),true,()),(c.2.2.1.1,c.2.2.1.2.1,c.2.2.1.2.2.1,()),())
|.inr e=>
 some (((),e.1.2.1,()),(e.2.1.1,e.2.1.2.1,e.2.1.2.2.1,()),()))
noncomputable def UQ:aH:=aP aj Tryz.f169 i169 SV [] f169
theorem ajS:aF U 169 UQ:=aS Vz Tryz.func169 (by kernel_rfl) (a' afl ag) (fun y=>by kernel_rfl) fun a=>by kernel_rfl
def eH:F:=[61,60,62]
theorem Nj:∀s:F,((∀y,y∈s->eH.contains y=false)/\Lib.indexAny s eH=-1)\/∃a x r,s=a++x::r/\eH.contains x=true/\(∀y,y∈a->eH.contains y=false)/\Lib.indexAny s eH=(a.length:Int):=by
 intro s;induction s with
 |nil=>exact .inl ⟨fun y h=>(by cases h),rfl⟩
 |cons b l ih=>
  unfold Lib.indexAny;cases hb:eH.contains b with
  |true=>exact .inr ⟨[],b,l,rfl,hb,fun y h=>(by cases h),rfl⟩
  |false=>
   rcases ih with⟨h1,h2⟩|⟨a,x,r,h1,h2,h3,ax⟩
   ·refine .inl ⟨fun y hy=>?_,?_⟩
    ·rcases List.mem_cons.1 hy with rfl|hy
     ·exact hb
     ·exact h1 y hy
    ·rw[h2];simp
   ·refine .inr ⟨b::a,x,r,by rw[h1];rfl,h2,fun y hy=>?_,?_⟩
    ·rcases List.mem_cons.1 hy with rfl|hy
     ·exact hb
     ·exact h3 y hy
    ·rw[ax];have:((a.length:Int)==-1)=false:=by rw[beq_eq_false_iff_ne];omega
     simp[this]
theorem agq{a r:F}{x:UInt8}(ha:∀y,y∈a->eH.contains y=false)(hx:eH.contains x=true):Lib.indexAny (a++x::r) eH=(a.length:Int):=by
 induction a with
 |nil=>show Lib.indexAny (x::r) eH=_;unfold Lib.indexAny;rw[hx];rfl
 |cons b a ih=>
  show Lib.indexAny (b::(a++x::r)) eH=_;unfold Lib.indexAny;have hb:=ha b List.mem_cons_self;rw[hb,ih fun y hy=>ha y (List.mem_cons_of_mem _ hy)]
  have:((a.length:Int)==-1)=false:=by rw[beq_eq_false_iff_ne];omega
  simp[this]
theorem ahS{s:F}(h:∀y,y∈s->eH.contains y=false):Lib.indexAny s eH=-1:=by
 rcases Nj s with⟨_,h2⟩|⟨a,x,r,h1,h2,_,_⟩
 ·exact h2
 ·have:=h x (by rw[h1];simp)
  rw[h2] at this;cases this
theorem aew{s:F}(h:s.length<=1000000):p_ s ([61,60,62]:F)=some ():=by
 unfold p_;exact if_pos ⟨by omega,by decide,by decide,by decide⟩
def oA(a t:F):Option bB:=match t with
 |62::61::r=>some ⟨a,2,r⟩
 |61::r=>some ⟨a,1,r⟩
 |60::r=>some ⟨a,3,r⟩
 |_=>none
def kb(s:F):Option bB:=match Lib.indexAny s eH with
 |.ofNat k=>oA (s.take k) (s.drop k)
 |_=>some ⟨s,0,[]⟩
def ez(s:F):Option bB:=match kb s with
 |some n=>bif dp n then some n else none
 |none=>none
def h4:bB:=⟨[],0,[]⟩
theorem Mk(s:F)(hs:s.length<=1000000):f169 ((s,()),())=some (((),((ez s).isSome,())),((((ez s).getD h4).name,(((ez s).getD h4).kind,(((ez s).getD h4).a8,()))),())):=by
 have hk:∀n:bB,n.name.length<=1000000->n.a8.length<=1000000->f102 (((n.name,(n.kind,(n.a8,()))),()),())=some ((dp n,()),()):=fun n h1 h2=>
  xk (((n.name,(n.kind,(n.a8,()))),()),()) (by show n.name.length<=2097152;omega) (by show n.a8.length<=2097152;omega)
 have fin:∀n:bB,n.name.length<=1000000->n.a8.length<=1000000->kb s=some n->
   mj ((s,((),((),()))),((([]:F),((0:Int),(([]:F),()))),((s,((0:Int),(([]:F),()))),())))=some (.inl (((),((),())),((([]:F),((0:Int),(([]:F),()))),((n.name,(n.kind,(n.a8,()))),()))))->
   f169 ((s,()),())=some (((),((ez s).isSome,())),((((ez s).getD h4).name,(((ez s).getD h4).kind,(((ez s).getD h4).a8,()))),())):=by
  intro n h1 h2 hr hg;have ta:=hk n h1 h2;have hG:ez s=bif dp n then some n else none:=by unfold ez;rw[hr]
  simp only[f169,hg,Option.bind_some,ta,hG];cases dp n<;>rfl
 have dX:p_ s ([61,60,62]:F)=some ():=aew hs;rcases Nj s with⟨_,h2⟩|⟨a,x,r,h1,h2,h3,ax⟩
 ·refine fin ⟨s,0,[]⟩ hs (by simp) (by unfold kb;rw[h2];rfl) ?_
  have h2:Lib.indexAny s ([61,60,62]:F)=-1:=h2;have Z:decide ((-1:Int)>=0)=false:=rfl;simp only[mj,dX,Option.bind_some,h2,Z,cond_false]
 ·have nU:Lib.indexAny s ([61,60,62]:F)=(a.length:Int):=ax;have Z:decide ((a.length:Int)>=0)=true:=decide_eq_true (by omega)
  have hl:s.length=a.length+(x::r).length:=by rw[h1];simp
  have e1:br s 0 ((a.length:Nat):Int)=some a:=by rw[hO (by omega),h1];simp
  have e2:br s ((a.length:Nat):Int) ((s.length:Nat):Int)=some (x::r):=by rw[gl (by omega),h1];simp
  have hp:=Zw (x::r) [62,61];have nM:aU (x::r) (0:Int)=some x:=rfl;have dH:kb s=oA a (x::r):=by
   unfold kb;rw[ax];have d1:s.drop a.length=x::r:=by rw[h1];simp
   have d2:s.take a.length=a:=by rw[h1];simp
   show oA (s.take a.length) (s.drop a.length)=_;rw[d1,d2]
  have no:kb s=none->mj ((s,((),((),()))),((([]:F),((0:Int),(([]:F),()))),((s,((0:Int),(([]:F),()))),())))=some (.inr (((),(false,())),((([]:F),((0:Int),(([]:F),()))),())))->
    f169 ((s,()),())=some (((),((ez s).isSome,())),((((ez s).getD h4).name,(((ez s).getD h4).kind,(((ez s).getD h4).a8,()))),())):=by
   intro hr hg;simp only[f169,hg,Option.bind_some];unfold ez;rw[hr];rfl
  have hx:x=61\/x=60\/x=62:=by simpa[eH] using h2
  have th:a.length<=1000000:=by omega
  have mK:r.length<=1000000:=by simp at hl;omega
  rcases hx with rfl|rfl|rfl
  ·have hn:dJ [62,61] (61::r)=none:=by unfold dJ;cases r<;>simp
   rw[hn] at hp;refine fin ⟨a,1,r⟩ th mK dH ?_
   have bz:br (61::r) 1 (((61::r).length:Nat):Int)=some r:=gl (xs:=61::r) (a:=1) (by simp)
   have t1:((((61:UInt8).toNat:Nat):Int)==61)=true:=rfl;simp only[mj,dX,Option.bind_some,nU,Z,cond_true,e1,e2,hp,Option.isSome_none,cond_false,nM,t1,bz]
  ·have hn:dJ [62,61] (60::r)=none:=by unfold dJ;cases r<;>simp
   rw[hn] at hp;refine fin ⟨a,3,r⟩ th mK dH ?_
   have bz:br (60::r) 1 (((60::r).length:Nat):Int)=some r:=gl (xs:=60::r) (a:=1) (by simp)
   have t1:((((60:UInt8).toNat:Nat):Int)==61)=false:=rfl;have t2:((((60:UInt8).toNat:Nat):Int)==60)=true:=rfl;simp only[mj,dX,Option.bind_some,nU,Z,cond_true,e1,e2,hp,Option.isSome_none,cond_false,nM,t1,t2,bz]
  ·have t1:((((62:UInt8).toNat:Nat):Int)==61)=false:=rfl;have t2:((((62:UInt8).toNat:Nat):Int)==60)=false:=rfl;cases r with
   |nil=>
    have hn:dJ [62,61] ([62]:F)=none:=by decide
    rw[hn] at hp;refine no dH ?_
    simp only[mj,dX,Option.bind_some,nU,Z,cond_true,e1,e2,hp,Option.isSome_none,cond_false,nM,t1,t2]
   |cons b r=>
    by_cases hb:b=61
    ·subst hb;have hn:dJ [62,61] (62::61::r)=some r:=tX [62,61] r;rw[hn] at hp;refine fin ⟨a,2,r⟩ th (by simp at mK;show r.length<=1000000;omega) dH ?_
     have bz:br (62::61::r) 2 (((62::61::r).length:Nat):Int)=some r:=gl (xs:=62::61::r) (a:=2) (by simp)
     simp only[mj,dX,Option.bind_some,nU,Z,cond_true,e1,e2,hp,Option.isSome_some,bz]
    ·have hn:dJ [62,61] (62::b::r)=none:=by
      have hb2:(b==61)=false:=by simpa using hb
      unfold dJ;simp[hb2]
     rw[hn] at hp;refine no (dH.trans ?_) ?_
     ·unfold oA;split
      ·rename_i h;simp at h;exact absurd h.1 hb
      ·rename_i h;simp at h
      ·rename_i h;simp at h
      ·rfl
     ·simp only[mj,dX,Option.bind_some,nU,Z,cond_true,e1,e2,hp,Option.isSome_none,cond_false,nM,t1,t2]
theorem NK{s:F}(h:∀x,x∈s->(97<=x.toNat/\x.toNat<=122)\/(48<=x.toNat/\x.toNat<=57)):∀y,y∈s->eH.contains y=false:=by
 intro y hy;have:=h y hy;cases hc:eH.contains y with
 |false=>rfl
 |true=>
  have hx:y=61\/y=60\/y=62:=by simpa[eH] using hc
  rcases hx with rfl|rfl|rfl<;>simp at this
theorem abu{n:bB}(h:dp n=true):kb (cG n)=some n:=by
 obtain⟨h1,h2⟩:=wX h;have hno:=NK (Cz h1);obtain⟨bC,k,v⟩:=n;have key:∀(x:UInt8) (t:F),eH.contains x=true->kb (bC++x::t)=oA bC (x::t):=by
  intro x t hx;unfold kb;rw[agq hno hx];have d1:(bC++x::t).drop bC.length=x::t:=by simp
  have d2:(bC++x::t).take bC.length=bC:=by simp
  show oA ((bC++x::t).take bC.length) ((bC++x::t).drop bC.length)=_;rw[d1,d2]
 rcases h2 with⟨hk,hv⟩|⟨hk,hv⟩
 ·have hk:k=0:=hk;have hv:v=[]:=hv;subst hk hv;have e:cG ⟨bC,0,[]⟩=bC:=by unfold cG dz;simp
  rw[e];unfold kb;rw[ahS hno];rfl
 ·rcases hk with hk|hk|hk
  ·have hk:k=1:=hk;subst hk;have e:cG ⟨bC,1,v⟩=bC++61::v:=by unfold cG dz;simp
   rw[e,key 61 v (by decide)];rfl
  ·have hk:k=2:=hk;subst hk;have e:cG ⟨bC,2,v⟩=bC++62::61::v:=by unfold cG dz;simp
   rw[e,key 62 (61::v) (by decide)];rfl
  ·have hk:k=3:=hk;subst hk;have e:cG ⟨bC,3,v⟩=bC++60::v:=by unfold cG dz;simp
   rw[e,key 60 v (by decide)];rfl
theorem ad5{n:bB}(h:dp n=true):ez (cG n)=some n:=by
 unfold ez;rw[abu h];simp[h]
noncomputable abbrev al4:bh:=[(114,vu),(115,Bc),(216,Ur)]
theorem Bj:a7 U (bg aj al4):=bf ⟨AT,Hi,ajz,⟨⟩⟩
abbrev O0:Shape:=⟨[aM 2 2 0,ao 3,au 4,ao 6,au 7,aK 8 .str],[aL 2 [ai,bo,bo,ai]],110⟩
abbrev OH:List aO:=[(.norm,⟨[aM 2 2 0,ao 3,au 4,ao 6,aK 8 .str,au 26],[aL 2 [ai,bo,bo,ai]],110⟩)]
noncomputable def uw(y:O0.J):Option (ay OH):=
 bif(!(!y.1.2.2.2.2.1)) then
 some (((),y.1.2.1,y.1.2.2.1,y.1.2.2.2.1,y.1.2.2.2.2.2.1,(decide ((y.1.2.2.2.2.2.1.length:Int)<(3:Int))),()),(y.2.1.1,y.2.1.2.1,y.2.1.2.2.1,y.2.1.2.2.2.1,()),())
else
 some (((),y.1.2.1,y.1.2.2.1,y.1.2.2.2.1,y.1.2.2.2.2.2.1,true,()),(y.2.1.1,y.2.1.2.1,y.2.1.2.2.1,y.2.1.2.2.2.1,()),())
theorem afk:aW U (an (codeOf Tryz.f170) 1 60) (a_ O0 OH uw):=cS Bj (by kernel_rfl) ag fun y=>by kernel_rfl
abbrev MI:Shape:=⟨[aM 2 2 0,ao 3,au 4,ao 6,aK 8 .str,ae 9],[aL 2 [ai,bo,bo,ai]],110⟩
abbrev Mq:List aO:=[(.norm,⟨[aM 2 2 0,ao 3,au 4,ao 6,aK 8 .str,ae 9,au 74],[aL 2 [ai,bo,bo,ai]],110⟩)]
noncomputable def Dy(y:MI.J):Option (ay Mq):=
(aU y.1.2.2.2.2.1 (0:Int)).bind fun a=>
 bif(!(!(a==([102,105,108,101]:F)))) then
 some (((),y.1.2.1,y.1.2.2.1,y.1.2.2.2.1,y.1.2.2.2.2.1,y.1.2.2.2.2.2.1,((y.1.2.2.2.2.1.length:Int) !=(4:Int)),()),(y.2.1.1,y.2.1.2.1,y.2.1.2.2.1,y.2.1.2.2.2.1,()),())
else
 some (((),y.1.2.1,y.1.2.2.1,y.1.2.2.2.1,y.1.2.2.2.2.1,y.1.2.2.2.2.2.1,true,()),(y.2.1.1,y.2.1.2.1,y.2.1.2.2.1,y.2.1.2.2.2.1,()),())
theorem abG:aW U (an (codeOf Tryz.f170) 1 2044) (a_ MI Mq Dy):=cS Bj (by kernel_rfl) ag fun y=>by kernel_rfl
abbrev MH:Shape:=⟨[aM 2 2 0,ao 3,au 4,ao 6,aK 8 .str,ae 9,au 10,ae 11],[aL 2 [ai,bo,bo,ai]],110⟩
abbrev Mp:List aO:=[(.norm,⟨[aM 2 2 0,ao 3,au 4,ao 6,aK 8 .str,ae 9,ae 11,au 96],[aL 2 [ai,bo,bo,ai]],110⟩)]
noncomputable def Dx(y:MH.J):Option (ay Mp):=
 bif(!(!y.1.2.2.2.2.2.2.1)) then
 bif(!(decide ((y.1.2.2.2.1.length:Int)<=y.1.2.2.2.2.2.2.2.1))) then
(aU y.1.2.2.2.1 y.1.2.2.2.2.2.2.2.1).bind fun a=>
 some (((),y.1.2.1,y.1.2.2.1,y.1.2.2.2.1,y.1.2.2.2.2.1,y.1.2.2.2.2.2.1,y.1.2.2.2.2.2.2.2.1,((a.toNat:Int) !=(10:Int)),()),(y.2.1.1,y.2.1.2.1,y.2.1.2.2.1,y.2.1.2.2.2.1,()),())
else
 some (((),y.1.2.1,y.1.2.2.1,y.1.2.2.2.1,y.1.2.2.2.2.1,y.1.2.2.2.2.2.1,y.1.2.2.2.2.2.2.2.1,true,()),(y.2.1.1,y.2.1.2.1,y.2.1.2.2.1,y.2.1.2.2.2.1,()),())
else
 some (((),y.1.2.1,y.1.2.2.1,y.1.2.2.2.1,y.1.2.2.2.2.1,y.1.2.2.2.2.2.1,y.1.2.2.2.2.2.2.2.1,true,()),(y.2.1.1,y.2.1.2.1,y.2.1.2.2.1,y.2.1.2.2.2.1,()),())
theorem abF:aW U (an (codeOf Tryz.f170) 1 8188) (a_ MH Mp Dx):=cS Bj (by kernel_rfl) ag fun y=>by kernel_rfl
abbrev i170:Shape:=⟨[ao 0],[],110⟩
abbrev Hy:Shape:=⟨[aM 2 2 0,ao 3,au 4],[aL 2 [ai,bo,bo,ai]],110⟩
noncomputable def f170(a:i170.J):Option Hy.J:=
(f114 ((a.1.1,([10]:F),()),())).bind fun b=>
(f216 ((b.1.1,([32]:F),(5:Int),()),())).bind fun c=>
(uw (((),([]:F),false,b.1.2.1,b.1.2.2.1,c.1.1,()),(([]:F),(0:Int),(0:Int),([]:F),()),())).bind fun d=>
 bif d.1.2.2.2.2.2.1 then
 some (((),([]:F),false,()),(([]:F),(0:Int),(0:Int),([]:F),()),())
else
(aU d.1.2.2.2.2.1 (0:Int)).bind fun e=>
 bif(e==([108,105,110,107]:F)) then
(aU d.1.2.2.2.2.1 (1:Int)).bind fun f=>
(aU d.1.2.2.2.2.1 (2:Int)).bind fun g=>
 some (((),d.1.2.2.2.1,((d.1.2.2.2.2.1.length:Int)==(3:Int)),()),(f,(3:Int),(0:Int),g,()),())
else
(aU d.1.2.2.2.2.1 (1:Int)).bind fun h=>
(f115 ((h,(7:Int),()),())).bind fun i=>
 bif(!i.1.2.1) then
 some (((),([]:F),false,()),(([]:F),(0:Int),(0:Int),([]:F),()),())
else
(aU d.1.2.2.2.2.1 (0:Int)).bind fun j=>
 bif(j==([100,105,114]:F)) then
(aU d.1.2.2.2.2.1 (2:Int)).bind fun k=>
 some (((),d.1.2.2.2.1,((d.1.2.2.2.2.1.length:Int)==(3:Int)),()),(k,(1:Int),i.1.1,([]:F),()),())
else
(Dy (((),d.1.2.1,d.1.2.2.1,d.1.2.2.2.1,d.1.2.2.2.2.1,i.1.1,()),(d.2.1.1,d.2.1.2.1,d.2.1.2.2.1,d.2.1.2.2.2.1,()),())).bind fun l=>
 bif l.1.2.2.2.2.2.2.1 then
 some (((),([]:F),false,()),(([]:F),(0:Int),(0:Int),([]:F),()),())
else
(aU l.1.2.2.2.2.1 (3:Int)).bind fun m=>
(f115 ((m,(80:Int),()),())).bind fun n=>
(Dx (((),l.1.2.1,l.1.2.2.1,l.1.2.2.2.1,l.1.2.2.2.2.1,l.1.2.2.2.2.2.1,n.1.2.1,n.1.1,()),(l.2.1.1,l.2.1.2.1,l.2.1.2.2.1,l.2.1.2.2.2.1,()),())).bind fun B=>
 bif B.1.2.2.2.2.2.2.2.1 then
 some (((),([]:F),false,()),(([]:F),(0:Int),(0:Int),([]:F),()),())
else
(aU B.1.2.2.2.2.1 (2:Int)).bind fun p=>
(br B.1.2.2.2.1 (0:Int) B.1.2.2.2.2.2.2.1).bind fun q=>
(br B.1.2.2.2.1 (IntKind.i64.wrap (B.1.2.2.2.2.2.2.1+(1:Int))) (B.1.2.2.2.1.length:Int)).bind fun r=>
 some (((),r,true,()),(p,(2:Int),B.1.2.2.2.2.2.1,q,()),())
noncomputable def UP:aH:=aP aj Tryz.f170 i170 Hy [] f170
theorem ajR:aF U 170 UP:=aS Bj Tryz.func170 (by kernel_rfl) (a' afk (a' abG (a' abF ag))) (fun y=>by kernel_rfl) fun a=>by kernel_rfl
def Av(aN w2 cj r:F):Option (aA×F):=bif e7 80 cj then(match r.drop (c4 cj).toNat with|10::ew=>some (⟨w2,2,c4 aN,r.take (c4 cj).toNat⟩,ew)|_=>none) else none
def jp(ws:List F)(r:F):Option (aA×F):=match ws with
 |O::aN::w2::more=>
  bif O==hh then(bif more==[] then some (⟨aN,3,0,w2⟩,r) else none)
  else bif e7 7 aN then
   (bif O==ht then(bif more==[] then some (⟨w2,1,c4 aN,[]⟩,r) else none)
   else bif O==hT then(match more with|[cj]=>Av aN w2 cj r|_=>none) else none)
  else none
 |_=>none
def ms(s:F):Option (aA×F):=match df 10 s with
 |some (bO,r)=>jp (splitN 32 4 bO) r
 |none=>none
theorem _P{m:Int}{s:F}(h:e7 m s=true):0<=c4 s/\c4 s<=m:=by
 unfold e7 at h;simp only[Bool.and_eq_true,decide_eq_true_eq] at h;refine⟨?_,h.2⟩;have key:∀(s:F) (n:Int),s.all cI=true->0<=n->0<=s.foldl dS n:=by
  intro s;induction s with
  |nil=>intro n _ h;exact h
  |cons b s ih=>
   intro n Z hn;simp only[List.all_cons,Bool.and_eq_true] at Z;have hb:=ir Z.1;refine ih _ Z.2 ?_
   unfold dS;omega
 exact key s 0 h.1.1.1.1 (by decide)
theorem pj(c:UInt8):∀(k:Nat) (s p:F),p∈splitN c k s->p.length<=s.length:=by
 intro k;induction k with
 |zero=>intro s p h;simp[splitN] at h;subst h;exact Nat.le_refl _
 |succ k ih=>
  intro s p h;unfold splitN at h;cases hc:df c s with
  |none=>rw[hc] at h;simp at h;subst h;exact Nat.le_refl _
  |some q=>
   obtain⟨x,y⟩:=q;rw[hc] at h;have hl:=(iO hc).1;have hl:s.length=x.length+1+y.length:=by rw[hl];simp;omega
   rcases List.mem_cons.1 h with rfl|h
   ·omega
   ·have:=ih y p h;omega
theorem akH{aB:Type}(a b c:aB)(l:List aB):decide (((a::b::c::l).length:Int)<3)=false:=decide_eq_false (by simp;omega)
theorem apW{aB:Type}[BEq aB](a b c:aB)(l:List aB):(((a::b::c::l).length:Int)==3)=(l==[]):=by
 cases l with
 |nil=>rfl
 |cons x l=>
  have h:((x::l)==([]:List aB))=false:=rfl;rw[h,beq_eq_false_iff_ne];simp;omega
theorem Lf(s:F)(hs:s.length<=1000000):∃(r:F) (e:aA),f170 ((s,()),())=some (((),(r,((ms s).isSome,()))),((e.path,(e.kind,(e.mode,(e.text,())))),()))/\∀q,ms s=some q->q=(e,r):=by
 have hc:=mq 10 s (by unfold aq;omega)
 have hc:f114 ((s,(([10]:F),())),())=_:=hc;have zero:∀{B:Option (aA×F)} {x:Option Hy.J},B=none->x=some (((),(([]:F),(false,()))),((([]:F),((0:Int),((0:Int),(([]:F),())))),()))->
   ∃(r:F) (e:aA),x=some (((),(r,(B.isSome,()))),((e.path,(e.kind,(e.mode,(e.text,())))),()))/\∀q,B=some q->q=(e,r):=by
  intro B x aC hx;subst aC;exact⟨[],⟨[],0,0,[]⟩,hx,fun q ar=>by cases ar⟩
 cases ar:df 10 s with
 |none=>
  have hw:=Mi (gM 10 s) (by unfold gM;rw[ar];show s.length<=1000000000;omega)
  rw[ar] at hc;refine zero (by unfold ms;rw[ar]) ?_
  simp only[f170,hc,Option.bind_some,hw,uw,Option.isSome_none,Bool.not_false,Bool.not_true,cond_false,cond_true]
 |some q=>
  obtain⟨bO,rest⟩:=q;have hl:=(iO ar).1;have hl:s.length=bO.length+1+rest.length:=by rw[hl];simp;omega
  have ha:gM 10 s=bO:=by unfold gM;rw[ar]
  have hb:gL 10 s=rest:=by unfold gL;rw[ar]
  have hw:=Mi bO (by omega)
  rw[ar,ha,hb] at hc;have hr:ms s=jp (splitN 32 4 bO) rest:=by unfold ms;rw[ar]
  have hm:=pj 32 4 bO;rw[hr];generalize splitN 32 4 bO=ws at hw hm;have short:decide ((ws.length:Int)<3)=true->jp ws rest=none->∃(r:F) (e:aA),f170 ((s,()),())=some (((),(r,((jp ws rest).isSome,()))),((e.path,(e.kind,(e.mode,(e.text,())))),()))/\∀q,jp ws rest=some q->q=(e,r):=by
   intro h1 h2;refine zero h2 ?_
   simp only[f170,hc,Option.bind_some,hw,uw,Option.isSome_some,Bool.not_false,Bool.not_true,cond_false,cond_true,h1]
  match ws,short,hw,hm with
  |[],short,hw,hm=>exact short rfl rfl
  |[_],short,hw,hm=>exact short rfl rfl
  |[_,_],short,hw,hm=>exact short rfl rfl
  |O::aN::w2::more,_,hw,hm=>
   have e0:aU (O::aN::w2::more) (0:Int)=some O:=rfl;have dV:aU (O::aN::w2::more) (1:Int)=some aN:=rfl;have fE:aU (O::aN::w2::more) (2:Int)=some w2:=rfl;have h3:=akH O aN w2 more;have dr:=apW O aN w2 more;have m1:=hm aN (by simp)
   have n1:=xi aN 7 (by unfold aq;omega)
   simp only[f170,hc,Option.bind_some,hw,uw,Option.isSome_some,Bool.not_false,Bool.not_true,cond_false,cond_true,h3,e0,dV,fE,dr,n1];unfold jp;have AF:(O==([108,105,110,107]:F))=(O==hh):=rfl;have vm:(O==([100,105,114]:F))=(O==ht):=rfl;have sw:(O==([102,105,108,101]:F))=(O==hT):=rfl;simp only[AF,vm];cases eS:O==hh with
   |true=>
    simp only[cond_true];refine⟨rest,⟨aN,3,0,w2⟩,?_,fun q ar=>?_⟩
    ·cases more==[]<;>rfl
    ·cases Jg:more==[]<;>rw[Jg] at ar<;>simp at ar
     exact ar.symm
   |false=>
    simp only[cond_false];cases Ci:e7 7 aN with
    |false=>
     simp only[Bool.not_false,cond_true,cond_false];exact zero rfl rfl
    |true=>
     simp only[Bool.not_true,cond_true,cond_false];cases Cj:O==ht with
     |true=>
      simp only[cond_true];refine⟨rest,⟨w2,1,c4 aN,[]⟩,?_,fun q ar=>?_⟩
      ·cases more==[]<;>rfl
      ·cases Jg:more==[]<;>rw[Jg] at ar<;>simp at ar
       exact ar.symm
     |false=>
      simp only[cond_false,Dy,e0,Option.bind_some,sw];cases atL:O==hT with
      |false=>
       simp only[Bool.not_false,Bool.not_true,cond_true,cond_false,Option.bind_some];exact zero rfl rfl
      |true=>
       simp only[Bool.not_false,Bool.not_true,cond_true,cond_false,Option.bind_some];match more,hm,e0,dV,fE,h3,dr,hw with
       |[],hm,e0,dV,fE,h3,dr,hw=>exact zero rfl rfl
       |cj::qQ::m,hm,e0,dV,fE,h3,dr,hw=>
        have:((((O::aN::w2::cj::qQ::m).length:Nat):Int) !=4)=true:=by rw[bne_iff_ne];simp;omega
        simp only[this,cond_true];exact zero rfl rfl
       |[cj],hm,e0,dV,fE,h3,dr,hw=>
        have ax:(((([O,aN,w2,cj]:List F).length:Nat):Int) !=4)=false:=rfl;have je:aU [O,aN,w2,cj] (3:Int)=some cj:=rfl;have m3:=hm cj (by simp)
        have io:=xi cj 80 (by unfold aq;omega)
        simp only[ax,cond_false,je,Option.bind_some,io,Dx];unfold Av;cases Kp:e7 80 cj with
        |false=>
         simp only[Bool.not_false,Bool.not_true,cond_true,cond_false,Option.bind_some];exact zero rfl rfl
        |true=>
         obtain⟨b1,b2⟩:=_P Kp;obtain⟨n,hn⟩:=Int.eq_ofNat_of_zero_le b1;simp only[Bool.not_false,Bool.not_true,cond_true,cond_false,Option.bind_some,hn,Int.toNat_natCast];rw[hn] at b2;by_cases hle:rest.length<=n
         ·have d1:decide (((rest.length:Nat):Int)<=(n:Int))=true:=decide_eq_true (by omega)
          have d2:rest.drop n=[]:=List.drop_eq_nil_of_le hle;simp only[d1,Bool.not_true,cond_false,Option.bind_some,cond_true,d2];exact zero rfl rfl
         ·have d1:decide (((rest.length:Nat):Int)<=(n:Int))=false:=decide_eq_false (by omega)
          obtain⟨b,ew,Z⟩:∃b ew,rest.drop n=b::ew:=by
           cases h:rest.drop n with
           |nil=>have:=List.drop_eq_nil_iff.1 h;omega
           |cons b ew=>exact⟨b,ew,rfl⟩
          have apd:aU rest (n:Int)=some b:=by
           rw[b6];have:rest[n]? =(rest.drop n)[0]? :=by simp
           rw[this,Z];rfl
          simp only[d1,Bool.not_false,cond_true,apd,Option.bind_some,Z];by_cases JH:b=10
          ·subst JH;have t:((((10:UInt8).toNat:Nat):Int) !=10)=false:=rfl;have s1:br rest 0 (n:Int)=some (rest.take n):=hO (by omega)
           have hw1:IntKind.i64.wrap ((n:Int)+1)=((n+1:Nat):Int):=b0 (by unfold aq;omega)
           have dk:rest.drop (n+1)=ew:=by rw[<-List.drop_drop,Z];rfl
           have s2:br rest ((n+1:Nat):Int) ((rest.length:Nat):Int)=some ew:=by rw[gl (by omega),dk]
           simp only[t,cond_false,s1,hw1,s2,Option.bind_some];exact⟨ew,⟨w2,2,c4 aN,rest.take n⟩,rfl,fun q ar=>by simp at ar;exact ar.symm⟩
          ·have t:(((b.toNat:Nat):Int) !=10)=true:=by
            rw[bne_iff_ne];intro h;exact JH (UInt8.toNat_inj.1 (by show b.toNat=10;omega))
           simp only[t,cond_true];refine zero ?_ rfl;split
           ·rename_i h;cases h;exact absurd rfl JH
           ·rfl
noncomputable abbrev amz:bh:=[(105,vw),(170,UP)]
theorem Iw:a7 U (bg aj amz):=bf ⟨z105,ajR,⟨⟩⟩
abbrev MN:Shape:=⟨[bc 4 3000256,aM 6 6 0,ao 7,au 8],[bb 3000256 .entry 4 0,aL 6 [ai,bo,bo,ai]],34⟩
abbrev Mv:List aO:=[(.norm,⟨[bc 4 3000256,aM 6 6 0,ao 7,au 24],[bb 3000256 .entry 4 0,aL 6 [ai,bo,bo,ai]],34⟩)]
noncomputable def rq(y:MN.J):Option (ay Mv):=
 bif(!(!y.1.2.2.2.1)) then
 some (((),(),y.1.2.2.1,((y.2.1.length:Int)==(16:Int)),()),y.2.1,(y.2.2.1.1,y.2.2.1.2.1,y.2.2.1.2.2.1,y.2.2.1.2.2.2.1,()),())
else
 some (((),(),y.1.2.2.1,true,()),y.2.1,(y.2.2.1.1,y.2.2.1.2.1,y.2.2.1.2.2.1,y.2.2.1.2.2.2.1,()),())
theorem abQ:aW U (an (c8 (an (codeOf Tryz.f118) 1 60)) 120 3860) (a_ MN Mv rq):=cS Iw (by kernel_rfl) ag fun y=>by kernel_rfl
abbrev yP:Shape:=⟨[bc 4 3000256,ao 5],[bb 3000256 .entry 4 0],34⟩
abbrev Ff:List aO:=[(.ret,⟨[bc 2 3000128,au 3],[bb 3000128 .entry 2 0],34⟩),(.exit 0,⟨[bc 4 3000256],[bb 3000256 .entry 4 0],34⟩)]
noncomputable def pR(y:yP.J):bQ yP Ff:=
 bif(!(y.1.2.1==([]:F))) then
(f170 ((y.1.2.1,()),())).bind fun a=>
(rq (((),(),a.1.2.1,a.1.2.2.1,()),y.2.1,(a.2.1.1,a.2.1.2.1,a.2.1.2.2.1,a.2.1.2.2.2.1,()),())).bind fun b=>
 bif b.1.2.2.2.1 then
 some (.inr (.inl (((),false,()),([]:List aA),())))
else
(cy 48 b.2.1 ([(aA.mk b.2.2.1.1 b.2.2.1.2.1 b.2.2.1.2.2.1 b.2.2.1.2.2.2.1)]:List aA)).bind fun c=>
 some (.inl (((),b.1.2.2.1,()),c,()))
else
 some (.inr (.inr (((),()),y.2.1,())))
noncomputable def ur:yP.J->Option (ay Ff):=bx pR
theorem afD:aW U (an (codeOf Tryz.f118) 1 60) (a_ yP Ff ur):=bR Iw (by kernel_rfl) (a' abQ ag) fun y=>by kernel_rfl
abbrev i118:Shape:=⟨[ao 0],[],34⟩
abbrev Tq:Shape:=⟨[bc 2 3000128,au 3],[bb 3000128 .entry 2 0],34⟩
noncomputable def f118(a:i118.J):Option Tq.J:=
(ur (((),a.1.1,()),([]:List aA),())).bind fun b=>
(match b with
|.inl c=>
 some (((),c.1.2.1,()),c.2.1,())
|.inr d=>
(f105 ((d.2.1,()),())).bind fun e=>
 bif(!e.1.1) then
 some (((),false,()),([]:List aA),())
else
 some (((),true,()),d.2.1,()))
noncomputable def Vj:aH:=aP aj Tryz.f118 i118 Tq [] f118
theorem aj9:aF U 118 Vj:=aS Iw Tryz.func118 (by kernel_rfl) (a' afD ag) (fun y=>by kernel_rfl) fun a=>by kernel_rfl
theorem D8{n:Nat}{m:Int}(h:(n:Int)<=m)(hK:n<1000000000):e7 m (Lib.itoa (n:Int))=true/\c4 (Lib.itoa (n:Int))=(n:Int):=by
 rw[py];exact⟨adO h hK,F_ n⟩
theorem K6(ws:List F)(k:Nat)(h:ws≠[])(hn:∀w,w∈ws->b5 32 w)(hk:ws.length<=k+1):splitN 32 k (k0 ws)=ws:=by
 have:=L5 h hn;rw[w5 32 k _ (by rw[this];exact hk),this]
theorem MS{e:aA}(h:eJ e=true)(r:F):ms (d_ e++r)=some (e,r):=by
 have hw:=(C0 h).1;unfold ms;rw[M0 h];show jp (splitN 32 4 (oC e)) (uS e r)=_;obtain⟨n,hn,iq⟩:=D9 h;obtain⟨g1,g2⟩:=D8 (n:=n) (m:=7) (by omega) (by omega)
 have qs:splitN 32 4 (oC e)=lD e:=K6 _ 4 (by unfold lD;cases e.kind==1<;>cases e.kind==3<;>simp) hw (by unfold lD;cases e.kind==1<;>cases e.kind==3<;>simp)
 rw[qs];obtain⟨p,k,m,t⟩:=e;have hn:m=n:=hn;subst hn;rcases tP h with hk|hk|hk
 ·have hk:k=1:=hk;subst hk;have ap:t=[]:=M' h rfl;subst ap;show jp [ht,Lib.itoa (n:Int),p] r=_;unfold jp;have e1:(ht==hh)=false:=by decide
  have e2:(ht==ht)=true:=by decide
  simp only[e1,e2,g1,g2,cond_true,cond_false];rfl
 ·have hk:k=2:=hk;subst hk;have hb:t.length<=80:=by
   have:=L9 h rfl;unfold nn at this;simp only[Bool.and_eq_true,decide_eq_true_eq] at this;exact this.2
  obtain⟨aD,az⟩:=D8 (n:=t.length) (m:=80) (by omega) (by omega)
  show jp [hT,Lib.itoa (n:Int),p,Lib.itoa (t.length:Int)] (t++10::r)=_;unfold jp;have e1:(hT==hh)=false:=by decide
  have e2:(hT==ht)=false:=by decide
  have bz:(hT==hT)=true:=by decide
  simp only[e1,e2,bz,g1,g2,cond_true,cond_false];unfold Av;have d1:(t++10::r).drop t.length=10::r:=by simp
  have d2:(t++10::r).take t.length=t:=by simp
  simp only[aD,az,cond_true,Int.toNat_natCast,d1,d2,g2]
 ·have hk:k=3:=hk;subst hk;obtain⟨_,hm⟩:=CX h rfl;have hm:(n:Int)=0:=hm;show jp [hh,p,t] r=_;unfold jp;have e1:(hh==hh)=true:=by decide
  simp only[e1,cond_true];rw[hm];rfl
theorem Df{s r:F}{e:aA}(h:ms s=some (e,r)):e.path.length<=s.length/\e.text.length<=s.length/\r.length<s.length:=by
 unfold ms at h;cases ar:df 10 s with
 |none=>rw[ar] at h;cases h
 |some q=>
  obtain⟨bO,rest⟩:=q;rw[ar] at h;have hl:=(iO ar).1;have hl:s.length=bO.length+1+rest.length:=by rw[hl];simp;omega
  have hm:=pj 32 4 bO;have h:jp (splitN 32 4 bO) rest=some (e,r):=h;generalize splitN 32 4 bO=ws at h hm;match ws,h,hm with
  |[],h,hm=>cases h
  |[_],h,hm=>cases h
  |[_,_],h,hm=>cases h
  |O::aN::w2::more,h,hm=>
   have m1:=hm aN (by simp)
   have m2:=hm w2 (by simp)
   unfold jp at h;simp only at h;cases eS:O==hh<;>simp only[eS,cond_true,cond_false] at h
   ·cases e1:e7 7 aN<;>simp only[e1,cond_true,cond_false] at h
    ·cases h
    ·cases e2:O==ht<;>simp only[e2,cond_true,cond_false] at h
     ·cases bz:O==hT<;>simp only[bz,cond_true,cond_false] at h
      ·cases h
      ·split at h
       ·rename_i cj;unfold Av at h;cases dw:e7 80 cj<;>simp only[dw,cond_true,cond_false] at h
        ·cases h
        ·split at h
         ·rename_i ew Z;simp only[Option.some.injEq,Prod.mk.injEq] at h;obtain⟨rfl,rfl⟩:=h;have Jj:=congrArg List.length Z;simp only[List.length_drop,List.length_cons] at Jj;refine⟨by show w2.length<=_;omega,by show(rest.take _).length<=_;simp;omega,by omega⟩
         ·cases h
       ·cases h
     ·cases bz:more==[]<;>simp only[bz,cond_true,cond_false] at h
      ·cases h
      ·simp only[Option.some.injEq,Prod.mk.injEq] at h;obtain⟨rfl,rfl⟩:=h;exact⟨by show w2.length<=_;omega,by show 0<=_;omega,by omega⟩
   ·cases bz:more==[]<;>simp only[bz,cond_true,cond_false] at h
    ·cases h
    ·simp only[Option.some.injEq,Prod.mk.injEq] at h;obtain⟨rfl,rfl⟩:=h;exact⟨by show aN.length<=_;omega,by show w2.length<=_;omega,by omega⟩
def oT(k:Nat)(t:List aA):Prop:=∀e,e∈t->e.path.length<=k/\e.text.length<=k
theorem agN:∀(m:Nat) (s:F) (t:List aA),s.length<=m->m<=1000000->t.length<=16->oT 1000000 t->
  (∃ns:List aA,ur (((),(s,())),(t,()))=some (.inr (((),()),(ns,())))/\ns.length<=16/\oT 1000000 ns)\/ur (((),(s,())),(t,()))=some (.inl (((),(false,())),(([]:List aA),()))):=by
 intro m;induction m with
 |zero=>
  intro s t hs _ ap ha;have:s=[]:=List.length_eq_zero_iff.1 (by omega)
  subst this;exact .inl ⟨t,cm rfl,ap,ha⟩
 |succ m ih=>
  intro s t hs hm ap ha;cases s with
  |nil=>exact .inl ⟨t,cm rfl,ap,ha⟩
  |cons b h7=>
   have hne:((b::h7)==([]:F))=false:=rfl;generalize ey:b::h7=s at hs hne;obtain⟨r,e,h1,h2⟩:=Lf s (by omega)
   cases hr:ms s with
   |none=>
    rw[hr] at h1;refine .inr (cm ?_);simp only[pR,hne,Bool.not_false,cond_true,h1,Option.bind_some,Option.isSome_none,rq,Bool.not_true,cond_false]
   |some q=>
    have ar:=h2 q hr;subst ar;rw[hr] at h1;obtain⟨eb,gw,wB⟩:=Df hr;by_cases wg:t.length=16
    ·refine .inr (cm ?_);have d:(((t.length:Nat):Int)==16)=true:=by rw[beq_iff_eq];omega
     simp only[pR,hne,Bool.not_false,cond_true,h1,Option.bind_some,Option.isSome_some,rq,Bool.not_true,cond_false,d]
    ·have d:(((t.length:Nat):Int)==16)=false:=by rw[beq_eq_false_iff_ne];omega
     have fa:cy 48 t ([(aA.mk e.path e.kind e.mode e.text)]:List aA)=some (t++[e]):=dZ (by decide) (by unfold aq;simp;omega)
     have st:pR (((),(s,())),(t,()))=some (.inl (((),(r,())),(t++[e],()))):=by
      simp only[pR,hne,Bool.not_false,cond_true,h1,Option.bind_some,Option.isSome_some,rq,Bool.not_true,cond_false,d,fa]
     have als:oT 1000000 (t++[e]):=fun x hx=>by
      rcases List.mem_append.1 hx with hx|hx
      ·exact ha x hx
      ·rw[List.mem_singleton.1 hx];exact⟨by omega,by omega⟩
     rcases ih r (t++[e]) (by omega) (by omega) (by simp;omega) als with⟨ns,g1,g2,g3⟩|g1
     ·exact .inl ⟨ns,(dD st).trans g1,g2,g3⟩
     ·exact .inr ((dD st).trans g1)
theorem agM:∀(b9 t:List aA),(∀e,e∈b9->eJ e=true)->t.length+b9.length<=16->(c_ b9).length<=1000000->
  ur (((),(c_ b9,())),(t,()))=some (.inr (((),()),(t++b9,()))):=by
 intro b9;induction b9 with
 |nil=>intro t _ _ _;rw[List.append_nil];exact cm rfl
 |cons e b9 ih=>
  intro t h ap hl;have he:=h e List.mem_cons_self;have hr:=MS he (c_ b9);have hE:c_ (e::b9)=d_ e++c_ b9:=by unfold c_;rw[List.flatMap_cons]
  rw[hE] at hl ⊢;have hlen:=(Df hr).2.2;have hne:((d_ e++c_ b9)==([]:F))=false:=by
   cases hx:d_ e++c_ b9 with
   |nil=>rw[hx] at hlen;simp at hlen
   |cons b r=>rfl
  obtain⟨r,cz,h1,h2⟩:=Lf (d_ e++c_ b9) hl;have ar:=h2 _ hr;simp only[Prod.mk.injEq] at ar;obtain⟨rfl,rfl⟩:=ar;rw[hr] at h1;have d:(((t.length:Nat):Int)==16)=false:=by rw[beq_eq_false_iff_ne];simp at ap;omega
  have fa:cy 48 t ([(aA.mk e.path e.kind e.mode e.text)]:List aA)=some (t++[e]):=dZ (by decide) (by unfold aq;simp;simp at ap;omega)
  have st:pR (((),(d_ e++c_ b9,())),(t,()))=some (.inl (((),(c_ b9,())),(t++[e],()))):=by
   simp only[pR,hne,Bool.not_false,cond_true,h1,Option.bind_some,Option.isSome_some,rq,Bool.not_true,cond_false,d,fa]
  have:=ih (t++[e]) (fun x hx=>h x (List.mem_cons_of_mem _ hx)) (by simp at ap ⊢;omega) (by omega)
  rw[List.append_assoc] at this;exact(dD st).trans this
theorem Y4(s:F)(hs:s.length<=1000000):∃(ok:Bool) (t:List aA),f118 ((s,()),())=some (((),(ok,())),(t,()))/\t.length<=16/\oT 1000000 t:=by
 rcases agN s.length s [] (Nat.le_refl _) hs (by decide) (fun x hx=>by cases hx) with⟨ns,g1,g2,g3⟩|g1
 ·have ap:=pm ((ns,()),()) ⟨by show ns.length<=2097152;omega,fun e he=>by have:=g3 e he;exact⟨by show e.path.length<=2097152;omega,by show e.text.length<=2097152;omega⟩⟩
  have ap:f105 ((ns,()),())=some ((dI ns,()),()):=ap;simp only[f118,g1,Option.bind_some,ap];cases dI ns with
  |false=>exact⟨false,[],rfl,by simp,fun x hx=>by cases hx⟩
  |true=>exact⟨true,ns,rfl,g2,g3⟩
 ·simp only[f118,g1,Option.bind_some];exact⟨false,[],rfl,by simp,fun x hx=>by cases hx⟩
theorem Y3(t:List aA)(h:dI t=true)(hs:(c_ t).length<=1000000)(hb:ij t):
  f118 ((c_ t,()),())=some (((),(true,())),(t,())):=by
 have g1:=agM t [] (tM h) (by have:=jj h;simpa using this) hs
 have ap:=pm ((t,()),()) hb;have ap:f105 ((t,()),())=some ((dI t,()),()):=ap;simp only[f118,g1,List.nil_append,Option.bind_some,ap,h,Bool.not_true,cond_false]
noncomputable abbrev amA:bh:=[(114,vu),(168,UR),(169,UQ)]
theorem Ix:a7 U (bg aj amA):=bf ⟨AT,z168,ajS,⟨⟩⟩
abbrev MO:Shape:=⟨[bc 5 3000320,ao 7,au 10,aM 11 11 0,au 12],[bb 3000320 .need 5 0,aL 11 [ai,bo,ai]],46⟩
abbrev Mw:List aO:=[(.norm,⟨[bc 5 3000320,ao 7,aM 11 11 0,au 40],[bb 3000320 .need 5 0,aL 11 [ai,bo,ai]],46⟩)]
noncomputable def tV(y:MO.J):Option (ay Mw):=
 bif(!(!y.1.2.2.1)) then
 some (((),y.1.2.1,(),(!y.1.2.2.2.2.1),()),y.2.1,(y.2.2.1.1,y.2.2.1.2.1,y.2.2.1.2.2.1,()),())
else
 some (((),y.1.2.1,(),true,()),y.2.1,(y.2.2.1.1,y.2.2.1.2.1,y.2.2.1.2.2.1,()),())
theorem abR:aW U (an (c8 (an (codeOf Tryz.f117) 1 14)) 28 7292) (a_ MO Mw tV):=cS Ix (by kernel_rfl) ag fun y=>by kernel_rfl
abbrev yQ:Shape:=⟨[ao 0,bc 5 3000320],[bb 3000320 .need 5 0],46⟩
abbrev Fg:List aO:=[(.ret,⟨[bc 2 3000128,ao 3,au 4],[bb 3000128 .need 2 0],46⟩)]
noncomputable def lB(y:yQ.J):bQ yQ Fg:=
(f114 ((y.1.1,([10]:F),()),())).bind fun a=>
 bif(!a.1.2.2.1) then
 some (.inr (((),([]:F),false,()),([]:List bB),()))
else
 bif(a.1.1==([]:F)) then
 some (.inr (((),a.1.2.1,true,()),y.2.1,()))
else
(f168 ((a.1.1,([110,101,101,100,32]:F),()),())).bind fun b=>
(f169 ((b.1.1,()),())).bind fun c=>
(tV (((),a.1.2.1,b.1.2.1,(),c.1.2.1,()),y.2.1,(c.2.1.1,c.2.1.2.1,c.2.1.2.2.1,()),())).bind fun d=>
 bif d.1.2.2.2.1 then
 some (.inr (((),([]:F),false,()),([]:List bB),()))
else
(cy 40 d.2.1 ([(bB.mk d.2.2.1.1 d.2.2.1.2.1 d.2.2.1.2.2.1)]:List bB)).bind fun e=>
 some (.inl ((d.1.2.1,(),()),e,()))
noncomputable def yY:yQ.J->Option (ay Fg):=bx lB
theorem afE:aW U (an (codeOf Tryz.f117) 1 14) (a_ yQ Fg yY):=bR Ix (by kernel_rfl) (a' abR ag) fun y=>by kernel_rfl
abbrev i117:Shape:=⟨[ao 0],[],46⟩
abbrev Tr:Shape:=⟨[bc 2 3000128,ao 3,au 4],[bb 3000128 .need 2 0],46⟩
noncomputable def f117(a:i117.J):Option Tr.J:=
(yY ((a.1.1,(),()),([]:List bB),())).bind fun b=>
 some (((),b.1.2.1,b.1.2.2.1,()),b.2.1,())
noncomputable def Vk:aH:=aP aj Tryz.f117 i117 Tr [] f117
theorem z117:aF U 117 Vk:=aS Ix Tryz.func117 (by kernel_rfl) (a' afE ag) (fun y=>by kernel_rfl) fun a=>by kernel_rfl
def sU(k:Nat)(t:List bB):Prop:=∀e,e∈t->e.name.length<=k/\e.a8.length<=k
theorem abt{a t:F}{n:bB}(h:oA a t=some n):n.name=a/\n.a8.length<=t.length:=by
 unfold oA at h;split at h
 ·cases h;exact⟨rfl,by simp;omega⟩
 ·cases h;exact⟨rfl,by simp⟩
 ·cases h;exact⟨rfl,by simp⟩
 ·cases h
theorem abv{s:F}{n:bB}(h:kb s=some n):n.name.length<=s.length/\n.a8.length<=s.length:=by
 unfold kb at h;split at h
 ·rename_i k _;obtain⟨h1,h2⟩:=abt h;rw[h1];simp at h2 ⊢;omega
 ·cases h;exact⟨Nat.le_refl _,by simp⟩
theorem ad6(s:F):((ez s).getD h4).name.length<=s.length/\((ez s).getD h4).a8.length<=s.length:=by
 have no:ez s=none->((ez s).getD h4).name.length<=s.length/\((ez s).getD h4).a8.length<=s.length:=fun h=>by
  rw[h];exact⟨Nat.zero_le _,Nat.zero_le _⟩
 cases h:kb s with
 |none=>exact no (by unfold ez;rw[h])
 |some n=>
  have hG:ez s=bif dp n then some n else none:=by unfold ez;rw[h]
  cases hk:dp n with
  |true=>rw[hG,hk];exact abv h
  |false=>exact no (by rw[hG,hk];rfl)
theorem Nb{p s r:F}(h:dJ p s=some r):r.length<=s.length:=by
 unfold dJ at h;cases hc:decide (p.length<=s.length)&&s.take p.length==p with
 |false=>rw[hc] at h;cases h
 |true=>rw[hc] at h;cases h;simp
theorem ad7(p s:F):((dJ p s).getD s).length<=s.length:=by
 cases h:dJ p s with
 |none=>exact Nat.le_refl _
 |some r=>exact Nb h
theorem agS:∀(m:Nat) (s:F) (t:List bB),s.length<=m->t.length+m<=1000000->sU 1000000 t->
  ∃(r:F) (ok:Bool) (ns:List bB),yY ((s,((),())),(t,()))=some (((),(r,(ok,()))),(ns,()))/\r.length<=s.length/\ns.length<=1000000/\sU 1000000 ns:=by
 intro m;induction m with
 |zero=>
  intro s t hs ap ha;have:s=[]:=List.length_eq_zero_iff.1 (by omega)
  subst this;have hc:=mq 10 [] (by unfold aq;simp)
  have hc:f114 ((([]:F),(([10]:F),())),())=some ((([]:F),(([]:F),(false,()))),()):=hc;refine⟨[],false,[],cm ?_,by simp,by simp,fun x hx=>by cases hx⟩
  simp only[lB,hc,Option.bind_some,Bool.not_false,cond_true]
 |succ m ih=>
  intro s t hs ap ha;have hc:=mq 10 s (by unfold aq;omega)
  have hc:f114 ((s,(([10]:F),())),())=_:=hc;cases ar:df 10 s with
  |none=>
   rw[ar] at hc;refine⟨[],false,[],cm ?_,by simp,by simp,fun x hx=>by cases hx⟩
   simp only[lB,hc,Option.bind_some,Option.isSome_none,Bool.not_false,cond_true]
  |some q=>
   obtain⟨bO,rest⟩:=q;have hl:=(iO ar).1;have hl:s.length=bO.length+1+rest.length:=by rw[hl];simp;omega
   have dX:gM 10 s=bO:=by unfold gM;rw[ar]
   have hB:gL 10 s=rest:=by unfold gL;rw[ar]
   rw[ar,dX,hB] at hc;cases he:bO==([]:F) with
   |true=>
    refine⟨rest,true,t,cm ?_,by omega,by omega,ha⟩
    simp only[lB,hc,Option.bind_some,Option.isSome_some,Bool.not_true,cond_false,he,cond_true]
   |false=>
    have hp:=Lj bO [110,101,101,100,32];have hp:f168 ((bO,(([110,101,101,100,32]:F),())),())=_:=hp;have bk:=ad7 [110,101,101,100,32] bO;generalize(dJ [110,101,101,100,32] bO).getD bO=w at hp bk;have hn:=Mk w (by omega)
    have BO:=ad6 w;cases cl:(dJ [110,101,101,100,32] bO).isSome&&(ez w).isSome with
    |false=>
     refine⟨[],false,[],cm ?_,by simp,by simp,fun x hx=>by cases hx⟩
     simp only[lB,hc,Option.bind_some,Option.isSome_some,Bool.not_true,cond_false,he,hp,hn,tV];cases iq:(dJ [110,101,101,100,32] bO).isSome with
     |false=>simp only[Bool.not_false,Bool.not_true,cond_false,cond_true,Option.bind_some]
     |true=>
      rw[iq] at cl;have cl:(ez w).isSome=false:=cl;simp only[cl,Bool.not_false,Bool.not_true,cond_false,cond_true,Option.bind_some]
    |true=>
     rw[Bool.and_eq_true] at cl;have fa:cy 40 t ([(bB.mk ((ez w).getD h4).name ((ez w).getD h4).kind ((ez w).getD h4).a8)]:List bB)=some (t++[(ez w).getD h4]):=dZ (by decide) (by unfold aq;simp;omega)
     have st:lB ((s,((),())),(t,()))=some (.inl ((rest,((),())),(t++[(ez w).getD h4],()))):=by
      simp only[lB,hc,Option.bind_some,Option.isSome_some,Bool.not_true,cond_false,he,hp,hn,tV,cl.1,cl.2,Bool.not_false,cond_true,fa]
     obtain⟨r,ok,ns,g1,g2,g3,g4⟩:=ih rest (t++[(ez w).getD h4]) (by omega) (by simp;omega) (fun x hx=>by
      rcases List.mem_append.1 hx with hx|hx
      ·exact ha x hx
      ·rw[List.mem_singleton.1 hx];exact⟨by omega,by omega⟩)
     exact⟨r,ok,ns,(dD st).trans g1,by omega,g3,g4⟩
theorem agR:∀(ns t:List bB) (r:F),(∀n,n∈ns->dp n=true)->t.length+ns.length<=1000->(ns.flatMap cF++10::r).length<=1000000->
  yY ((ns.flatMap cF++10::r,((),())),(t,()))=some (((),(r,(true,()))),(t++ns,())):=by
 intro ns;induction ns with
 |nil=>
  intro t r _ _ hs;have hc:=mq 10 (10::r) (by unfold aq;simp at hs ⊢;omega)
  have dX:gM 10 (10::r)=[]:=by unfold gM;rw[GA]
  have hB:gL 10 (10::r)=r:=by unfold gL;rw[GA]
  rw[dX,hB,GA] at hc;have hc:f114 ((10::r,(([10]:F),())),())=some ((([]:F),(r,(true,()))),()):=hc;have he:(([]:F)==([]:F))=true:=rfl;rw[List.append_nil];refine cm ?_
  show lB ((10::r,((),())),(t,()))=_;simp only[lB,hc,Option.bind_some,Bool.not_true,cond_false,he,cond_true]
 |cons n ns ih=>
  intro t r h ap hs;have hk:=h n List.mem_cons_self;have fB:=abY (n:=n) (ns:=ns) (r:=10::r) hk;generalize ey:(n::ns).flatMap cF++10::r=s at hs fB;have hc:=mq 10 s (by unfold aq;omega)
  have hl:=(iO fB).1;have hl:s.length=(fx++32::cG n).length+1+(ns.flatMap cF++10::r).length:=by rw[hl];simp;omega
  have dX:gM 10 s=fx++32::cG n:=by unfold gM;rw[fB]
  have hB:gL 10 s=ns.flatMap cF++10::r:=by unfold gL;rw[fB]
  rw[dX,hB,fB] at hc;have hc:f114 ((s,(([10]:F),())),())=some ((fx++32::cG n,(ns.flatMap cF++10::r,(true,()))),()):=hc;have he:((fx++32::cG n)==([]:F))=false:=rfl;have Z:dJ [110,101,101,100,32] (fx++32::cG n)=some (cG n):=tX [110,101,101,100,32] (cG n);have hp:=Lj (fx++32::cG n) [110,101,101,100,32];rw[Z] at hp;have hp:f168 ((fx++32::cG n,(([110,101,101,100,32]:F),())),())=some ((cG n,(true,())),()):=hp;have hn:=Mk (cG n) (by simp[fx] at hl;omega)
  rw[ad5 hk] at hn;have hn:f169 ((cG n,()),())=some (((),(true,())),((n.name,(n.kind,(n.a8,()))),())):=hn;have fa:cy 40 t ([(bB.mk n.name n.kind n.a8)]:List bB)=some (t++[n]):=dZ (by decide) (by unfold aq;simp;simp at ap;omega)
  have st:lB ((s,((),())),(t,()))=some (.inl ((ns.flatMap cF++10::r,((),())),(t++[n],()))):=by
   simp only[lB,hc,Option.bind_some,Bool.not_true,cond_false,he,hp,hn,tV,Bool.not_false,cond_true,fa]
  have:=ih (t++[n]) r (fun x hx=>h x (List.mem_cons_of_mem _ hx)) (by simp at ap ⊢;omega) (by omega)
  rw[List.append_assoc] at this;exact(dD st).trans this
theorem YT(s:F)(hs:s.length<=1000000):∃(r:F) (ok:Bool) (ns:List bB),f117 ((s,()),())=some (((),(r,(ok,()))),(ns,()))/\r.length<=s.length/\ns.length<=1000000/\sU 1000000 ns:=by
 obtain⟨r,ok,ns,g1,g2⟩:=agS s.length s [] (Nat.le_refl _) (by simpa using hs) (fun x hx=>by cases hx)
 exact⟨r,ok,ns,by simp only[f117,g1,Option.bind_some],g2⟩
theorem YS(ns:List bB)(r:F)(h:∀n,n∈ns->dp n=true)(hl:ns.length<=1000)(hs:(ns.flatMap cF++10::r).length<=1000000):
  f117 ((ns.flatMap cF++10::r,()),())=some (((),(r,(true,()))),(ns,())):=by
 have g1:=agR ns [] r h (by simpa using hl) hs
 simp only[f117,g1,Option.bind_some,List.nil_append]
noncomputable abbrev aqF:bh:=[(36,JX),(55,B5),(114,vu),(116,Vl),(117,Vk),(118,Vj)]
theorem XY:a7 U (bg aj aqF):=bf ⟨VU,IC,AT,z116,z117,aj9,⟨⟩⟩
abbrev MD:Shape:=⟨[ao 0,aM 2 2 0,aM 11 11 0,au 14],[bv 5000130 .need 2 2,bv 5000131 .entry 2 3,aL 2 [ai,ai,.own 5000130,.own 5000131],bv 5000706 .need 11 2,bv 5000707 .entry 11 3,aL 11 [ai,ai,.own 5000706,.own 5000707]],76⟩
abbrev Ml:List aO:=[(.norm,⟨[aM 2 2 0,aM 11 11 0,au 73],[bv 5000130 .need 2 2,bv 5000131 .entry 2 3,aL 2 [ai,ai,.own 5000130,.own 5000131],bv 5000706 .need 11 2,bv 5000707 .entry 11 3,aL 11 [ai,ai,.own 5000706,.own 5000707]],76⟩)]
noncomputable def po(y:MD.J):Option (ay Ml):=
 bif(!(!y.1.2.2.2.1)) then
(f55 (((y.2.2.2.2.2.2.1.1,y.2.2.2.2.2.2.1.2.1,y.2.2.2.2.1,y.2.2.2.2.2.1,()),()),())).bind fun a=>
 bif(!(!a.1.1)) then
(f36 (((y.2.2.2.2.2.2.1.1,y.2.2.2.2.2.2.1.2.1,y.2.2.2.2.1,y.2.2.2.2.2.1,()),()),())).bind fun b=>
 some (((),(),(!(b.1.1==y.1.1)),()),y.2.1,y.2.2.1,(y.2.2.2.1.1,y.2.2.2.1.2.1,(),(),()),y.2.2.2.2.1,y.2.2.2.2.2.1,(y.2.2.2.2.2.2.1.1,y.2.2.2.2.2.2.1.2.1,(),(),()),())
else
 some (((),(),true,()),y.2.1,y.2.2.1,(y.2.2.2.1.1,y.2.2.2.1.2.1,(),(),()),y.2.2.2.2.1,y.2.2.2.2.2.1,(y.2.2.2.2.2.2.1.1,y.2.2.2.2.2.2.1.2.1,(),(),()),())
else
 some (((),(),true,()),y.2.1,y.2.2.1,(y.2.2.2.1.1,y.2.2.2.1.2.1,(),(),()),y.2.2.2.2.1,y.2.2.2.2.2.1,(y.2.2.2.2.2.2.1.1,y.2.2.2.2.2.2.1.2.1,(),(),()),())
theorem aby:aW U (an (codeOf Tryz.f67) 1 16380) (a_ MD Ml po):=cS XY (by kernel_rfl) ag fun y=>by kernel_rfl
abbrev i67:Shape:=⟨[ao 0],[],76⟩
abbrev vJ:Shape:=⟨[aM 2 2 0,au 3],[bv 5000130 .need 2 2,bv 5000131 .entry 2 3,aL 2 [ai,ai,.own 5000130,.own 5000131]],76⟩
noncomputable def f67(a:i67.J):Option vJ.J:=
 bif(decide ((a.1.1.length:Int)>(4000:Int))) then
 some (((),false,()),([]:List bB),([]:List aA),(([]:F),([]:F),(),(),()),())
else
(f114 ((a.1.1,([10]:F),()),())).bind fun b=>
(f114 ((b.1.2.1,([10]:F),()),())).bind fun c=>
(f116 ((c.1.1,([32]:F),()),())).bind fun d=>
 bif((d.1.1.length:Int) !=(3:Int)) then
 some (((),false,()),([]:List bB),([]:List aA),(([]:F),([]:F),(),(),()),())
else
(aU d.1.1 (1:Int)).bind fun e=>
(aU d.1.1 (2:Int)).bind fun f=>
(f117 ((c.1.2.1,()),())).bind fun g=>
 bif(!g.1.2.2.1) then
 some (((),false,()),([]:List bB),([]:List aA),(([]:F),([]:F),(),(),()),())
else
(f118 ((g.1.2.1,()),())).bind fun h=>
(po ((a.1.1,(),(),h.1.2.1,()),([]:List bB),([]:List aA),(([]:F),([]:F),(),(),()),g.2.1,h.2.1,(e,f,(),(),()),())).bind fun i=>
 bif i.1.2.2.1 then
 some (((),false,()),([]:List bB),([]:List aA),(([]:F),([]:F),(),(),()),())
else
 some (((),true,()),i.2.2.2.2.1,i.2.2.2.2.2.1,(i.2.2.2.2.2.2.1.1,i.2.2.2.2.2.2.1.2.1,(),(),()),())
noncomputable def XB:aH:=aP aj Tryz.f67 i67 vJ [] f67
theorem anq:aF U 67 XB:=aS XY Tryz.func67 (by kernel_rfl) (a' aby ag) (fun y=>by kernel_rfl) fun a=>by kernel_rfl
theorem CB{aB:Type}(f:aB->F):∀{xs:List aB} {x:aB},x∈xs->(f x).length<=(xs.flatMap f).length:=by
 intro xs;induction xs with
 |nil=>intro x h;cases h
 |cons y bd ih=>
  intro x h;rw[List.flatMap_cons,List.length_append];rcases List.mem_cons.1 h with rfl|h
  ·omega
  ·have:=ih h;omega
theorem acb{e:aA}(h:eJ e=true):e.path.length<=(d_ e).length/\e.text.length<=(d_ e).length:=by
 have hc:=Df (MS h []);rw[List.append_nil] at hc;exact⟨hc.1,hc.2.1⟩
theorem w_(p:ba):(de p).length<=(bI p).length/\p.name.length+p.a8.length+(p.bm.flatMap cF++10::c_ p.bW).length+10<=(de p).length+10/\(c_ p.bW).length<=(de p).length/\(p.bm.flatMap cF).length<=(de p).length:=by
 have h1:(bI p).length=(eD p).length+1+(de p).length:=by rw[uk];simp;omega
 have h2:(de p).length=(dN p).length+1+(iv p).length:=by rw[uc];simp;omega
 have h3:(dN p).length=4+1+(p.name.length+1+p.a8.length):=by unfold dN;simp[k0,ib];omega
 have ax:(iv p).length=(p.bm.flatMap cF).length+1+(c_ p.bW).length:=by unfold iv;rw[List.length_append,List.length_cons];omega
 have bk:(p.bm.flatMap cF++10::c_ p.bW).length=(iv p).length:=rfl;omega
theorem Gx{p:ba}(hk:cH p=true)(hl:(bI p).length<=4000):ky p:=by
 obtain⟨h1,h2,h3,ax,_,cl⟩:=mX hk;obtain⟨q1,q2,dr,lm⟩:=w_ p;refine⟨by show p.name.length<=2097152;omega,by show p.a8.length<=2097152;omega,⟨by show p.bm.length<=2097152;omega,fun n hn=>?_⟩,⟨by show p.bW.length<=2097152;have:=jj cl;omega,fun e he=>?_⟩⟩
 ·have h:=CB cF hn;have ik:(cF n).length=(cG n).length+6:=by unfold cF;simp
  have hp:n.name.length+n.a8.length<=(cG n).length:=by unfold cG;simp
  exact⟨by show n.name.length<=2097152;omega,by show n.a8.length<=2097152;omega⟩
 ·have h:=CB d_ he;have h:(d_ e).length<=(c_ p.bW).length:=h;have:=acb (tM cl e he);exact⟨by show e.path.length<=2097152;omega,by show e.text.length<=2097152;omega⟩
abbrev q4(p:ba):vJ.J:=(((),(true,())),(p.bm,(p.bW,((p.name,(p.a8,((),((),())))),()))))
abbrev Kz:vJ.J:=(((),(false,())),(([]:List bB),(([]:List aA),((([]:F),(([]:F),((),((),())))),()))))
theorem ahU{p q:ba}(h:q4 p=q4 q):p=q:=by
 obtain⟨a,b,c,d⟩:=p;obtain⟨cL,bH,fg,Yu⟩:=q;simp only[q4,Prod.mk.injEq] at h;obtain⟨_,rfl,rfl,⟨rfl,rfl,_⟩,_⟩:=h;rfl
theorem Ct{p:ba}(hk:cH p=true)(hl:(bI p).length<=4000):f67 ((bI p,()),())=some (q4 p):=by
 have hb:=Gx hk hl;obtain⟨h1,h2,h3,ax,_,cl⟩:=mX hk;obtain⟨q1,q2,dr,lm⟩:=w_ p;have d:decide (((bI p).length:Int)>4000)=false:=decide_eq_false (by omega)
 have c1:=mq 10 (bI p) (by unfold aq;omega)
 have a1:gL 10 (bI p)=de p:=by unfold gL;rw[adJ]
 rw[a1] at c1;have c1:f114 ((bI p,(([10]:F),())),())=_:=c1;have c2:=mq 10 (de p) (by unfold aq;omega)
 have a2:gL 10 (de p)=iv p:=by unfold gL;rw[Ni hk]
 have a3:gM 10 (de p)=dN p:=by unfold gM;rw[Ni hk]
 rw[a2,a3] at c2;have c2:f114 ((de p,(([10]:F),())),())=_:=c2;have bP:(dN p).length<=(de p).length:=by rw[uc];simp
 have c3:=Mj (dN p) (by omega)
 rw[CI hk] at c3;have io:(((([ib,p.name,p.a8]:List F).length:Nat):Int) !=3)=false:=rfl;have dV:aU [ib,p.name,p.a8] (1:Int)=some p.name:=rfl;have fE:aU [ib,p.name,p.a8] (2:Int)=some p.a8:=rfl;have c5:=YS p.bm (c_ p.bW) h3 (by omega) (by omega)
 have c5:f117 ((iv p,()),())=_:=c5;have gy:=Y3 p.bW cl (by omega) hb.2.2.2
 have c6:=xj (((p.name,(p.a8,(p.bm,(p.bW,())))),()),()) hb;have c6:f55 (((p.name,(p.a8,(p.bm,(p.bW,())))),()),())=some ((cH p,()),()):=c6;have pd:=LN p hb;rw[hk] at c6 pd;simp only[f67,d,cond_false,c1,c2,c3,io,dV,fE,c5,gy,Option.bind_some,Bool.not_true,Bool.not_false,po,cond_true,c6,pd,beq_self_eq_true]
theorem Y1(s:F)(hs:aq s.length):f67 ((s,()),())=some Kz\/∃p:ba,f67 ((s,()),())=some (q4 p)/\cH p=true/\bI p=s/\s.length<=4000:=by
 by_cases hl:s.length<=4000
 ·have d:decide ((s.length:Int)>4000)=false:=decide_eq_false (by omega)
  have arR:∀t:F,(gM 10 t).length<=t.length:=fun t=>by
   unfold gM;cases h:df 10 t with
   |none=>exact Nat.le_refl _
   |some q=>obtain⟨x,y⟩:=q;have:=(iO h).1;show x.length<=_;rw[this];simp
  have Yk:∀t:F,(gL 10 t).length<=t.length:=fun t=>by
   unfold gL;cases h:df 10 t with
   |none=>show 0<=_;omega
   |some q=>obtain⟨x,y⟩:=q;have:=(iO h).1;show y.length<=_;rw[this];simp;omega
  have c1:=mq 10 s hs;have c1:f114 ((s,(([10]:F),())),())=_:=c1;have eb:=Yk s;generalize gL 10 s=b at c1 eb;have c2:=mq 10 b (by unfold aq;omega)
  have c2:f114 ((b,(([10]:F),())),())=_:=c2;have gw:=Yk b;have wB:=arR b;generalize gL 10 b=r at c2 gw;generalize gM 10 b=Z at c2 wB;have c3:=Mj Z (by omega)
  have m3:∀w,w∈bJ 32 Z->w.length<=Z.length:=fun w hw=>by
   rw[<-w4 32 Z.length Z (Nat.le_refl _)] at hw;exact pj 32 _ Z w hw
  generalize bJ 32 Z=ws at c3 m3;cases io:(((ws.length:Nat):Int) !=3) with
  |true=>
   refine .inl ?_
   simp only[f67,d,cond_false,c1,c2,c3,io,cond_true,Option.bind_some]
  |false=>
   obtain⟨O,bC,vs,rfl⟩:∃O bC vs,ws=[O,bC,vs]:=by
    have:ws.length=3:=by simp at io;omega
    match ws,this with
    |[a,b,c],_=>exact⟨a,b,c,rfl⟩
   have dV:aU [O,bC,vs] (1:Int)=some bC:=rfl;have fE:aU [O,bC,vs] (2:Int)=some vs:=rfl;have aD:=m3 bC (by simp)
   have az:=m3 vs (by simp)
   obtain⟨ew,ok,ns,c5,cQ,fF,h9⟩:=YT r (by omega)
   obtain⟨IM,t,gy,wH,Ki⟩:=Y4 ew (by omega)
   cases ok with
   |false=>
    refine .inl ?_
    simp only[f67,d,cond_false,c1,c2,c3,io,dV,fE,c5,cond_true,Option.bind_some,Bool.not_false]
   |true=>
    cases IM with
    |false=>
     refine .inl ?_
     simp only[f67,d,cond_false,c1,c2,c3,io,dV,fE,c5,gy,cond_true,Option.bind_some,Bool.not_false,Bool.not_true,po]
    |true=>
     have hb:ky ⟨bC,vs,ns,t⟩:=⟨by show bC.length<=2097152;omega,by show vs.length<=2097152;omega,⟨by show ns.length<=2097152;omega,fun n hn=>by have:=h9 n hn;exact⟨by show n.name.length<=2097152;omega,by show n.a8.length<=2097152;omega⟩⟩,⟨by show t.length<=2097152;omega,fun e he=>by have:=Ki e he;exact⟨by show e.path.length<=2097152;omega,by show e.text.length<=2097152;omega⟩⟩⟩
     have c6:=xj (((bC,(vs,(ns,(t,())))),()),()) hb;have c6:f55 (((bC,(vs,(ns,(t,())))),()),())=some ((cH ⟨bC,vs,ns,t⟩,()),()):=c6;have pd:=LN ⟨bC,vs,ns,t⟩ hb;have pd:f36 (((bC,(vs,(ns,(t,())))),()),())=_:=pd;cases hk:cH ⟨bC,vs,ns,t⟩ with
     |false=>
      rw[hk] at c6;refine .inl ?_
      simp only[f67,d,cond_false,c1,c2,c3,io,dV,fE,c5,gy,cond_true,Option.bind_some,Bool.not_false,Bool.not_true,po,c6]
     |true=>
      rw[hk] at c6 pd;cases he:bI ⟨bC,vs,ns,t⟩==s with
      |false=>
       refine .inl ?_
       simp only[f67,d,cond_false,c1,c2,c3,io,dV,fE,c5,gy,cond_true,Option.bind_some,Bool.not_false,Bool.not_true,po,c6,pd,he]
      |true=>
       refine .inr ⟨⟨bC,vs,ns,t⟩,?_,hk,eq_of_beq he,hl⟩;simp only[f67,d,cond_false,c1,c2,c3,io,dV,fE,c5,gy,cond_true,Option.bind_some,Bool.not_false,Bool.not_true,po,c6,pd,he]
 ·have d:decide ((s.length:Int)>4000)=true:=decide_eq_true (by omega)
  refine .inl ?_
  simp only[f67,d,cond_true]
def WL(s:F)(p:ba):Prop:=cH p=true/\bI p=s/\s.length<=4000
def ar2(B:Option ba):vJ.J:=match B with|some p=>q4 p|none=>Kz
theorem _W(s:F)(hs:aq s.length):∃B:Option ba,f67 ((s,()),())=some (ar2 B)/\nu B (WL s):=by
 rcases Y1 s hs with h|⟨p,h,h1,h2,h3⟩
 ·refine⟨none,h,fun p=>⟨fun hp=>(by cases hp),fun⟨q1,q2,dr⟩=>?_⟩⟩
  subst q2;have:=Ct q1 dr;rw[h] at this;simp only[Option.some.injEq,Prod.mk.injEq] at this;exact absurd this.1.2.1 (by decide)
 ·refine⟨some p,h,fun q=>⟨fun hp=>?_,fun⟨q1,q2,dr⟩=>?_⟩⟩
  ·cases hp;exact⟨h1,h2,h3⟩
  ·subst q2;have:=Ct q1 dr;rw[h] at this;rw[ahU (Option.some.inj this)]
noncomputable abbrev aqG:bh:=[(114,vu),(115,Bc)]
theorem XZ:a7 U (bg aj aqG):=bf ⟨AT,Hi,⟨⟩⟩
abbrev P2:Shape:=⟨[ao 2,ao 3,au 4,ao 6,au 7,ae 8,au 9],[],35⟩
abbrev PT:List aO:=[(.norm,⟨[ao 2,ao 3,au 4,ao 6,ae 8,au 28],[],35⟩)]
noncomputable def uJ(y:P2.J):Option (ay PT):=
 bif(!(!y.1.2.2.2.2.1)) then
 some ((y.1.1,y.1.2.1,y.1.2.2.1,y.1.2.2.2.1,y.1.2.2.2.2.2.1,(!y.1.2.2.2.2.2.2.1),()),())
else
 some ((y.1.1,y.1.2.1,y.1.2.2.1,y.1.2.2.2.1,y.1.2.2.2.2.2.1,true,()),())
theorem aha:aW U (an (codeOf Tryz.f66) 1 60) (a_ P2 PT uJ):=cS XZ (by kernel_rfl) ag fun y=>by kernel_rfl
abbrev i66:Shape:=⟨[ao 0],[],35⟩
abbrev Wj:Shape:=⟨[ao 2,ao 3,au 4],[],35⟩
noncomputable def f66(a:i66.J):Option Wj.J:=
(f114 ((a.1.1,([10]:F),()),())).bind fun b=>
(f115 ((b.1.1,(b.1.2.1.length:Int),()),())).bind fun c=>
(uJ ((([]:F),([]:F),false,b.1.2.1,b.1.2.2.1,c.1.1,c.1.2.1,()),())).bind fun d=>
 bif d.1.2.2.2.2.2.1 then
 some ((([]:F),([]:F),false,()),())
else
(br d.1.2.2.2.1 (0:Int) d.1.2.2.2.2.1).bind fun e=>
(br d.1.2.2.2.1 d.1.2.2.2.2.1 (d.1.2.2.2.1.length:Int)).bind fun f=>
 some ((e,f,true,()),())
noncomputable def XC:aH:=aP aj Tryz.f66 i66 Wj [] f66
theorem anr:aF U 66 XC:=aS XZ Tryz.func66 (by kernel_rfl) (a' aha ag) (fun y=>by kernel_rfl) fun a=>by kernel_rfl
theorem aeF(t:F)(b:UInt8):c4 (t++[b])=dS (c4 t) b:=by unfold c4;rw[List.foldl_append];rfl
theorem aeD:∀{s:F},s.all cI=true->s≠[]->hS s=false->s.length≠1->1<=c4 s:=by
 intro s Z hn hl h1;have key:∀(s:F) (n:Int),s.all cI=true->1<=n->1<=s.foldl dS n:=by
  intro s;induction s with
  |nil=>intro n _ h;exact h
  |cons b s ih=>
   intro n Z hn;simp only[List.all_cons,Bool.and_eq_true] at Z;have hb:=ir Z.1;refine ih _ Z.2 ?_
   unfold dS;omega
 match s,Z,hn,hl,h1 with
 |[],_,hn,_,_=>exact absurd rfl hn
 |[b],_,_,_,h1=>exact absurd rfl h1
 |b::c::r,Z,_,hl,_=>
  have hl:((b.toNat:Int)==48)=false:=hl;have hb:=Z;rw[List.all_cons,Bool.and_eq_true] at hb;have eM:=ir hb.1;have hne:(b.toNat:Int)≠48:=by simpa using hl
  show 1<=(c::r).foldl dS (dS 0 b);exact key _ _ hb.2 (by unfold dS;omega)
theorem aaH:∀(k:Nat) (s:F),s.length=k->s.all cI=true->s≠[]->hS s=false->∃n:Nat,c4 s=(n:Int)/\Lib.decDigits n=s:=by
 intro k;induction k with
 |zero=>intro s h _ hn _;exact absurd (List.length_eq_zero_iff.1 h) hn
 |succ k ih=>
  intro s h Z hn hl;obtain⟨t,b,rfl⟩:∃t b,s=t++[b]:=⟨s.dropLast,s.getLast hn,(List.dropLast_concat_getLast hn).symm⟩;have hk:t.length=k:=by simpa using h
  rw[List.all_append,Bool.and_eq_true] at Z;have hb1:cI b=true:=by have:=Z.2;simpa using this
  have eM:=ir hb1;cases t with
  |nil=>
   refine⟨b.toNat-48,?_,?_⟩
   ·show dS 0 b=_;unfold dS;omega
   ·rw[Lib.decDigits,dif_pos (by omega)]
    show [_]=[b];congr 1
    apply UInt8.toNat_inj.1;rw[UInt8.toNat_ofNat'];omega
  |cons c r=>
   have hlt:hS (c::r)=false:=by
    cases r with
    |nil=>rfl
    |cons d r=>exact hl
   obtain⟨n,h1,h2⟩:=ih (c::r) hk Z.1 (by simp) hlt
   have hp:1<=n:=by
    cases r with
    |nil=>
     have o8:((c.toNat:Int)==48)=false:=hl;have o8:(c.toNat:Int)≠48:=by simpa using o8
     have hc:=ir (by have:=Z.1;simpa using this:cI c=true)
     have:dS 0 c=(n:Int):=h1;unfold dS at this;omega
    |cons d r=>
     have:=aeD Z.1 (by simp) hlt (by simp)
     omega
   refine⟨n*10+(b.toNat-48),?_,?_⟩
   ·rw[aeF,h1];unfold dS;omega
   ·rw[Lib.decDigits,dif_neg (by omega),show(n*10+(b.toNat-48))/10=n by omega,h2,show(n*10+(b.toNat-48))%10=b.toNat-48 by omega]
    congr 2
    apply UInt8.toNat_inj.1;rw[UInt8.toNat_ofNat'];omega
theorem MV{m:Int}{s:F}(h:e7 m s=true):∃n:Nat,c4 s=(n:Int)/\s=Lib.itoa (n:Int)/\(n:Int)<=m:=by
 have h0:=h;unfold e7 at h;simp only[Bool.and_eq_true,decide_eq_true_eq,Bool.not_eq_true'] at h;obtain⟨⟨⟨⟨h1,h2⟩,h3⟩,_⟩,bk⟩:=h;obtain⟨n,e1,e2⟩:=aaH s.length s rfl h1 (by simpa using h2) h3
 exact⟨n,e1,by rw[py,e2],by omega⟩
def kX(s:F):Option (F×F):=match df 10 s with
 |some (bO,r)=>bif e7 (r.length:Int) bO then some (r.take (c4 bO).toNat,r.drop (c4 bO).toNat) else none
 |none=>none
theorem Le(s:F)(hs:aq s.length):f66 ((s,()),())=some ((((kX s).getD ([],[])).1,(((kX s).getD ([],[])).2,((kX s).isSome,()))),()):=by
 have c1:=mq 10 s hs;have c1:f114 ((s,(([10]:F),())),())=_:=c1;cases ar:df 10 s with
 |none=>
  have hz:kX s=none:=by unfold kX;rw[ar]
  have dX:gM 10 s=s:=by unfold gM;rw[ar]
  have n1:=xi s ((gL 10 s).length:Int) hs;rw[ar,dX] at c1;simp only[f66,c1,Option.bind_some,n1,uJ,Option.isSome_none,Bool.not_false,Bool.not_true,cond_false,cond_true,hz];rfl
 |some q=>
  obtain⟨bO,r⟩:=q;have hl:=(iO ar).1;have hl:s.length=bO.length+1+r.length:=by rw[hl];simp;omega
  have dX:gM 10 s=bO:=by unfold gM;rw[ar]
  have hB:gL 10 s=r:=by unfold gL;rw[ar]
  rw[ar,dX,hB] at c1;have n1:=xi bO (r.length:Int) (by unfold aq at hs ⊢;omega)
  have hz:kX s=bif e7 (r.length:Int) bO then some (r.take (c4 bO).toNat,r.drop (c4 bO).toNat) else none:=by unfold kX;rw[ar]
  cases hg:e7 (r.length:Int) bO with
  |false=>
   rw[hg] at hz n1;simp only[f66,c1,Option.bind_some,n1,uJ,Option.isSome_some,Bool.not_false,Bool.not_true,cond_false,cond_true,hz];rfl
  |true=>
   rw[hg] at hz n1;obtain⟨n,h1,_,h3⟩:=MV hg;rw[h1] at hz n1;have s1:br r 0 (n:Int)=some (r.take n):=hO (by omega)
   have s2:br r (n:Int) ((r.length:Nat):Int)=some (r.drop n):=gl (by omega)
   simp only[f66,c1,Option.bind_some,n1,uJ,Option.isSome_some,Bool.not_false,Bool.not_true,cond_false,cond_true,s1,s2,hz];rfl
theorem L0{s x y:F}(h:kX s=some (x,y)):s=fi x++y/\y.length<s.length:=by
 unfold kX at h;cases ar:df 10 s with
 |none=>rw[ar] at h;cases h
 |some q=>
  obtain⟨bO,r⟩:=q;rw[ar] at h;have hs:=(iO ar).1;have h:(bif e7 (r.length:Int) bO then some (r.take (c4 bO).toNat,r.drop (c4 bO).toNat) else none)=some (x,y):=h
  cases hg:e7 (r.length:Int) bO with
  |false=>rw[hg] at h;cases h
  |true=>
   rw[hg] at h;obtain⟨n,h1,h2,h3⟩:=MV hg;simp only[cond_true,Option.some.injEq,Prod.mk.injEq,h1,Int.toNat_natCast] at h;obtain⟨rfl,rfl⟩:=h;have hlen:(r.take n).length=n:=by simp;omega
   refine⟨?_,?_⟩
   ·unfold fi;rw[hlen,<-h2,hs];simp
   ·rw[hs];simp;omega
theorem abr(x y:F)(hK:x.length<1000000000):kX (fi x++y)=some (x,y):=by
 unfold kX;rw[MB];obtain⟨g1,g2⟩:=D8 (n:=x.length) (m:=((x++y).length:Int)) (by simp;omega) hK
 show(bif e7 ((x++y).length:Int) (Lib.itoa (x.length:Int)) then _ else _)=_
 rw[g1,g2];simp
noncomputable abbrev aqT:bh:=[(43,B6),(66,XC),(67,XB)]
theorem J3:a7 U (bg aj aqT):=bf ⟨ID,anr,anq,⟨⟩⟩
abbrev NP:Shape:=⟨[aM 2 2 0,bc 4 3000256,ao 6,ao 7,au 8],[bv 5000128 .pack 2 0,aL 2 [.own 5000128],bb 3000256 .pack 4 0],48⟩
abbrev NB:List aO:=[(.norm,⟨[aM 2 2 0,bc 4 3000256,ao 6,ao 7,au 26],[bv 5000128 .pack 2 0,aL 2 [.own 5000128],bb 3000256 .pack 4 0],48⟩)]
noncomputable def pD(y:NP.J):Option (ay NB):=
 bif(!(!y.1.2.2.2.2.1)) then
 some (((),(),y.1.2.2.1,y.1.2.2.2.1,((y.2.2.2.1.length:Int)==(5:Int)),()),y.2.1,((),()),y.2.2.2.1,())
else
 some (((),(),y.1.2.2.1,y.1.2.2.2.1,true,()),y.2.1,((),()),y.2.2.2.1,())
theorem adn:aW U (an (c8 (an (codeOf Tryz.f35) 1 60)) 120 3860) (a_ NP NB pD):=cS J3 (by kernel_rfl) ag fun y=>by kernel_rfl
abbrev zQ:Shape:=⟨[aM 2 2 0,bc 4 3000256,ao 5],[bv 5000128 .pack 2 0,aL 2 [.own 5000128],bb 3000256 .pack 4 0],48⟩
abbrev Gu:List aO:=[(.ret,⟨[aM 2 2 0,au 3],[bv 5000128 .pack 2 0,aL 2 [.own 5000128]],48⟩),(.exit 0,⟨[aM 2 2 0,bc 4 3000256],[bv 5000128 .pack 2 0,aL 2 [.own 5000128],bb 3000256 .pack 4 0],48⟩)]
noncomputable def ox(y:zQ.J):bQ zQ Gu:=
 bif(!(y.1.2.2.1==([]:F))) then
(f66 ((y.1.2.2.1,()),())).bind fun a=>
(pD (((),(),a.1.1,a.1.2.1,a.1.2.2.1,()),y.2.1,((),()),y.2.2.2.1,())).bind fun b=>
 bif b.1.2.2.2.2.1 then
 some (.inr (.inl (((),false,()),([]:List ba),((),()),())))
else
(f67 ((b.1.2.2.1,()),())).bind fun c=>
 bif(!c.1.2.1) then
 some (.inr (.inl (((),false,()),([]:List ba),((),()),())))
else
(cy 80 b.2.2.2.1 ([(ba.mk c.2.2.2.1.1 c.2.2.2.1.2.1 c.2.1 c.2.2.1)]:List ba)).bind fun d=>
 some (.inl (((),(),b.1.2.2.2.1,()),b.2.1,((),()),d,()))
else
 some (.inr (.inr (((),(),()),y.2.1,((),()),y.2.2.2.1,())))
noncomputable def uG:zQ.J->Option (ay Gu):=bx ox
theorem ahh:aW U (an (codeOf Tryz.f35) 1 60) (a_ zQ Gu uG):=bR J3 (by kernel_rfl) (a' adn ag) fun y=>by kernel_rfl
abbrev i35:Shape:=⟨[ao 0],[],48⟩
abbrev vL:Shape:=⟨[aM 2 2 0,au 3],[bv 5000128 .pack 2 0,aL 2 [.own 5000128]],48⟩
noncomputable def f35(a:i35.J):Option vL.J:=
(uG (((),(),a.1.1,()),([]:List ba),((),()),([]:List ba),())).bind fun b=>
(match b with
|.inl c=>
 some (((),c.1.2.1,()),c.2.1,((),()),())
|.inr d=>
(f43 (((d.2.2.2.1,()),()),())).bind fun e=>
 bif(!e.1.1) then
 some (((),false,()),([]:List ba),((),()),())
else
 some (((),true,()),d.2.2.2.1,((),()),()))
noncomputable def XL:aH:=aP aj Tryz.f35 i35 vL [] f35
theorem anA:aF U 35 XL:=aS J3 Tryz.func35 (by kernel_rfl) (a' ahh ag) (fun y=>by kernel_rfl) fun a=>by kernel_rfl
noncomputable abbrev aq1:bh:=[(35,XL)]
theorem ark:a7 U (bg aj aq1):=bf ⟨anA,⟨⟩⟩
abbrev i14:Shape:=⟨[cB 0 [ai,ai]],[],17⟩
abbrev Bx:Shape:=⟨[au 2],[],17⟩
noncomputable def f14(a:i14.J):Option Bx.J:=
(f35 ((a.1.1.1,()),())).bind fun b=>
 bif b.1.2.1 then
 some (((a.1.1.2.1==([]:F)),()),())
else
 some ((false,()),())
noncomputable def wl:aH:=aP aj Tryz.f14 i14 Bx [] f14
theorem VV:aF U 14 wl:=aS ark Tryz.func14 (by kernel_rfl) ag (fun y=>by kernel_rfl) fun a=>by kernel_rfl
abbrev oL(ps:List ba):Prop:=∀p,p∈ps->cH p=true/\(bI p).length<=4000
def oV(s:F)(ps:List ba):Prop:=jK ps=true/\dF ps=s/\oL ps
abbrev Ky(ps:List ba):vL.J:=(((),(true,())),(ps,(((),()),())))
abbrev JQ:vL.J:=(((),(false,())),(([]:List ba),(((),()),())))
def aqf(B:Option (List ba)):vL.J:=match B with|some ps=>Ky ps|none=>JQ
theorem yZ{ps:List ba}(h:oL ps)(hl:ps.length<=6):kk ps/\tC ps:=by
 refine⟨⟨by show ps.length<=2097152;omega,fun p hp=>Gx (h p hp).1 (h p hp).2⟩,fun p hp=>?_⟩
 obtain⟨hk,ar⟩:=h p hp;obtain⟨q1,q2,dr,lm⟩:=w_ p;refine⟨by omega,fun n hn=>?_⟩
 have h:=CB cF hn;have ik:(cF n).length=(cG n).length+6:=by unfold cF;simp
 have hp:n.name.length+n.a8.length<=(cG n).length:=by unfold cG;simp
 omega
theorem Dg(p:ba)(ps:List ba):dF (p::ps)=fi (bI p)++dF ps:=by unfold dF;rw[List.flatMap_cons]
theorem agU:∀(m:Nat) (s:F) (ps:List ba),s.length<=m->m<=1000000000->ps.length<=5->
  uG (((),((),(s,()))),(([]:List ba),(((),()),(ps,()))))=some (.inl JQ)\/
  ∃bY:List ba,uG (((),((),(s,()))),(([]:List ba),(((),()),(ps,()))))=some (.inr (((),((),())),(([]:List ba),(((),()),(ps++bY,())))))/\dF bY=s/\oL bY/\(ps++bY).length<=5:=by
 intro m;induction m with
 |zero=>
  intro s ps hs _ hl;have:s=[]:=List.length_eq_zero_iff.1 (by omega)
  subst this;exact .inr ⟨[],by rw[List.append_nil];exact cm rfl,rfl,fun p hp=>(by cases hp),by simpa using hl⟩
 |succ m ih=>
  intro s ps hs hm hl;cases s with
  |nil=>exact .inr ⟨[],by rw[List.append_nil];exact cm rfl,rfl,fun p hp=>(by cases hp),by simpa using hl⟩
  |cons b h7=>
   have hne:((b::h7)==([]:F))=false:=rfl;generalize ey:b::h7=s at hs hne;have z:=Le s (by unfold aq;omega)
   cases hz:kX s with
   |none=>
    rw[hz] at z;refine .inl (cm ?_);simp only[ox,hne,Bool.not_false,cond_true,z,Option.bind_some,Option.isSome_none,pD,Bool.not_true,cond_false]
   |some q=>
    obtain⟨x,y⟩:=q;obtain⟨aD,az⟩:=L0 hz;rw[hz] at z;have z:f66 ((s,()),())=some ((x,(y,(true,()))),()):=z;by_cases bk:ps.length=5
    ·refine .inl (cm ?_);have d:(((ps.length:Nat):Int)==5)=true:=by rw[beq_iff_eq];omega
     simp only[ox,hne,Bool.not_false,cond_true,z,Option.bind_some,pD,Bool.not_true,cond_false,d]
    ·have d:(((ps.length:Nat):Int)==5)=false:=by rw[beq_eq_false_iff_ne];omega
     have hx:x.length<=s.length:=by rw[aD];unfold fi;simp;omega
     obtain⟨B,g1,g2⟩:=_W x (by unfold aq;omega)
     cases B with
     |none=>
      have g1:f67 ((x,()),())=some Kz:=g1;refine .inl (cm ?_);simp only[ox,hne,Bool.not_false,cond_true,z,Option.bind_some,pD,Bool.not_true,cond_false,d,g1]
     |some p=>
      have g1:f67 ((x,()),())=some (q4 p):=g1;obtain⟨jf,iK,p3⟩:=(g2 p).1 rfl;have fa:cy 80 ps ([(ba.mk p.name p.a8 p.bm p.bW)]:List ba)=some (ps++[p]):=dZ (by decide) (by unfold aq;simp;omega)
      have st:ox (((),((),(s,()))),(([]:List ba),(((),()),(ps,()))))=some (.inl (((),((),(y,()))),(([]:List ba),(((),()),(ps++[p],()))))):=by
       simp only[ox,hne,Bool.not_false,cond_true,z,Option.bind_some,pD,Bool.not_true,cond_false,d,g1,fa]
      rcases ih y (ps++[p]) (by omega) (by omega) (by simp;omega) with e|⟨bY,e1,e2,bz,dw⟩
      ·exact .inl ((dD st).trans e)
      ·rw[List.append_assoc] at e1 dw;refine .inr ⟨p::bY,(dD st).trans e1,by rw[Dg,e2,iK,<-aD],fun r hr=>?_,dw⟩
       rcases List.mem_cons.1 hr with rfl|hr
       ·exact⟨jf,by rw[iK];exact p3⟩
       ·exact bz r hr
theorem agT:∀(bY ps:List ba),oL bY->ps.length+bY.length<=5->
  uG (((),((),(dF bY,()))),(([]:List ba),(((),()),(ps,()))))=some (.inr (((),((),())),(([]:List ba),(((),()),(ps++bY,()))))):=by
 intro bY;induction bY with
 |nil=>intro ps _ _;rw[List.append_nil];exact cm rfl
 |cons p bY ih=>
  intro ps h hl;obtain⟨h1,h2⟩:=h p List.mem_cons_self;have hz:=abr (bI p) (dF bY) (by omega)
  rw[<-Dg] at hz;have hlen:(dF (p::bY)).length<=30000:=by
   have:=ub (f:=fun p=>fi (bI p)) (xs:=p::bY) (n:=5000) fun q ar=>by
    have:=(h q ar).2;have:=na (bI q).length (by omega)
    show(fi (bI q)).length<=5000;unfold fi;simp;omega
   have e:(dF (p::bY)).length=((p::bY).flatMap fun p=>fi (bI p)).length:=rfl
   simp only[List.length_cons] at hl this;have cl:(bY.length+1)*5000<=6*5000:=Nat.mul_le_mul_right _ (by omega)
   omega
  have z:=Le (dF (p::bY)) (by unfold aq;omega)
  rw[hz] at z;have z:f66 ((dF (p::bY),()),())=some ((bI p,(dF bY,(true,()))),()):=z;have g1:=Ct h1 h2;have hne:(dF (p::bY)==([]:F))=false:=by
   have:=(L0 hz).2;cases hx:dF (p::bY) with
   |nil=>rw[hx] at this;simp at this
   |cons b r=>rfl
  have d:(((ps.length:Nat):Int)==5)=false:=by rw[beq_eq_false_iff_ne];simp at hl;omega
  have fa:cy 80 ps ([(ba.mk p.name p.a8 p.bm p.bW)]:List ba)=some (ps++[p]):=dZ (by decide) (by unfold aq;simp;simp at hl;omega)
  have st:ox (((),((),(dF (p::bY),()))),(([]:List ba),(((),()),(ps,()))))=some (.inl (((),((),(dF bY,()))),(([]:List ba),(((),()),(ps++[p],()))))):=by
   simp only[ox,hne,Bool.not_false,cond_true,z,Option.bind_some,pD,Bool.not_true,cond_false,d,g1,fa]
  have:=ih (ps++[p]) (fun r hr=>h r (List.mem_cons_of_mem _ hr)) (by simp at hl ⊢;omega)
  rw[List.append_assoc] at this;exact(dD st).trans this
theorem _V(s:F)(hs:s.length<=1000000000):∃B:Option (List ba),f35 ((s,()),())=some (aqf B)/\nu B (oV s):=by
 have put:∀ps:List ba,oV s ps->f35 ((s,()),())=some (Ky ps):=by
  intro ps ⟨h1,h2,h3⟩;subst h2;have hl:ps.length<=5:=(wW h1).2;obtain⟨hb,hv⟩:=yZ h3 (by omega)
  have g:=agT ps [] h3 (by simpa using hl)
  have e:=Mh (((ps,()),()),()) hb hv;have e:f43 (((ps,()),()),())=some ((jK ps,()),()):=e;rw[h1] at e;simp only[f35,g,List.nil_append,Option.bind_some,e,Bool.not_true,cond_false]
 have any:f35 ((s,()),())=some JQ\/∃ps,f35 ((s,()),())=some (Ky ps)/\oV s ps:=by
  rcases agU s.length s [] (Nat.le_refl _) hs (by decide) with g|⟨bY,g,h1,h2,h3⟩
  ·refine .inl ?_
   simp only[f35,g,Option.bind_some]
  ·rw[List.nil_append] at g h3;obtain⟨hb,hv⟩:=yZ h2 (by omega)
   have e:=Mh (((bY,()),()),()) hb hv;have e:f43 (((bY,()),()),())=some ((jK bY,()),()):=e;cases hr:jK bY with
   |false=>
    rw[hr] at e;refine .inl ?_
    simp only[f35,g,Option.bind_some,e,Bool.not_false,cond_true]
   |true=>
    rw[hr] at e;refine .inr ⟨bY,?_,hr,h1,h2⟩;simp only[f35,g,Option.bind_some,e,Bool.not_true,cond_false]
 rcases any with h|⟨ps,h,hr⟩
 ·refine⟨none,h,fun p=>⟨fun hp=>(by cases hp),fun hp=>?_⟩⟩
  have:=put p hp;rw[h] at this;simp only[Option.some.injEq,Prod.mk.injEq] at this;exact absurd this.1.2.1 (by decide)
 ·refine⟨some ps,h,fun q=>⟨fun hp=>by cases hp;exact hr,fun hp=>?_⟩⟩
  have:=put q hp;rw[h] at this;simp only[Option.some.injEq,Prod.mk.injEq] at this;rw[this.2.1]
theorem aa3(s t:F)(hs:s.length<=1000000000):∃B:Option (List ba),f14 (((s,(t,())),()),())=some ((B.isSome&&t==[],()),())/\nu B (oV s):=by
 obtain⟨B,h1,h2⟩:=_V s hs;refine⟨B,?_,h2⟩;simp only[f14,h1,Option.bind_some];cases B<;>rfl
theorem Mz{c:UInt8}{k:Nat}{s:F}(h:b5 c s):splitN c k s=[s]:=by
 cases k with
 |zero=>rfl
 |succ k=>unfold splitN;rw[age h]
theorem LU{c:UInt8}{k:Nat}{a b:F}(h:b5 c a):splitN c (k+1) (a++c::b)=a::splitN c k b:=by
 show(match df c (a++c::b) with|some (x,y)=>x::splitN c k y|none=>[a++c::b])=_
 rw[rD h]
theorem aeN(pre mid rest:F):br (pre++mid++rest) (pre.length:Int) ((pre.length+mid.length:Nat):Int)=some mid:=by
 rw[px (by omega) (by simp),show pre.length+mid.length=(pre++mid).length by simp,List.take_left' rfl,List.drop_left' rfl]
theorem afS(c:UInt8)(s:F)(hs:s.length<=1000000000):∀(rest mid pre:F) (parts:List F) (k jR:Nat),s=pre++mid++rest->b5 c mid->parts.length+k=jR->parts.length<=pre.length->
  ∃(Gy:List F) (Hq t:F),uo ((s,((c.toNat:Int),((jR:Int),((),((pre.length:Int),(((pre.length+mid.length:Nat):Int),())))))),(parts,()))=some ((s,((),((Hq.length:Int),()))),(Gy,()))/\s=Hq++t/\Gy++[t]=parts++splitN c k (mid++rest)/\Gy.length<=Hq.length:=by
 intro rest;induction rest with
 |nil=>
  intro mid pre parts k jR h1 h2 h3 ax;rw[List.append_nil] at h1;refine⟨parts,pre,mid,cm ?_,h1,by rw[List.append_nil,Mz h2],ax⟩
  have d:decide (((pre.length+mid.length:Nat):Int)<(s.length:Int))=false:=decide_eq_false (by rw[h1];simp)
  simp only[ol,d,cond_false]
 |cons b r ih=>
  intro mid pre parts k jR h1 h2 h3 ax;have hl:s.length=pre.length+mid.length+1+r.length:=by rw[h1];simp;omega
  have d:decide (((pre.length+mid.length:Nat):Int)<(s.length:Int))=true:=decide_eq_true (by omega)
  cases k with
  |zero=>
   refine⟨parts,pre,mid++b::r,cm ?_,by rw[h1,List.append_assoc],rfl,ax⟩
   have d2:decide (((parts.length:Nat):Int)<(jR:Int))=false:=decide_eq_false (by omega)
   simp only[ol,d,d2,cond_true,cond_false]
  |succ k=>
   have d2:decide (((parts.length:Nat):Int)<(jR:Int))=true:=decide_eq_true (by omega)
   have hx:aU s ((pre.length+mid.length:Nat):Int)=some b:=by
    rw[b6,h1,List.getElem?_append_right (by simp)]
    simp
   have hw:IntKind.i64.wrap (((pre.length+mid.length:Nat):Int)+1)=((pre.length+mid.length+1:Nat):Int):=b0 (by unfold aq;omega)
   by_cases hb:b=c
   ·subst hb;have ar:(((b.toNat:Nat):Int)==(b.toNat:Int))=true:=by simp
    have hm:br s (pre.length:Int) ((pre.length+mid.length:Nat):Int)=some mid:=by rw[h1];exact aeN pre mid _
    have ha:cy 16 parts ([mid]:List F)=some (parts++[mid]):=dZ (by decide) (by unfold aq;simp;omega)
    have hp:(pre++mid++[b]).length=pre.length+mid.length+1:=by simp;omega
    obtain⟨j4,fl,t,g1,g2,g3,g4⟩:=ih [] (pre++mid++[b]) (parts++[mid]) k jR (by rw[h1];simp) (b5.nil b) (by simp;omega) (by rw[hp];simp;omega)
    rw[hp] at g1;refine⟨j4,fl,t,(dD ?_).trans g1,g2,?_,g4⟩
    ·simp only[ol,d,d2,cond_true,hx,Option.bind_some,ar,hm,ha,hw];rfl
    ·rw[g3,LU h2];simp
   ·have ar:(((b.toNat:Nat):Int)==(c.toNat:Int))=false:=by
     rw[beq_eq_false_iff_ne];intro h;exact hb (UInt8.toNat_inj.1 (by omega))
    obtain⟨j4,fl,t,g1,g2,g3,g4⟩:=ih (mid++[b]) pre parts (k+1) jR (by rw[h1];simp) (h2.cP fun x hx=>by rw[List.mem_singleton.1 hx];exact hb) h3 ax
    have hp:pre.length+(mid++[b]).length=pre.length+mid.length+1:=by simp;omega
    rw[hp] at g1;refine⟨j4,fl,t,(dD ?_).trans g1,g2,?_,g4⟩
    ·simp only[ol,d,d2,cond_true,hx,Option.bind_some,ar,cond_false,hw]
    ·rw[g3];simp
theorem lv(c:UInt8)(s:F)(hs:s.length<=1000000000)(jR:Nat):f73 ((s,((c.toNat:Int),((jR:Int),()))),())=some (((),()),(splitN c jR s,())):=by
 obtain⟨j4,fl,t,g1,g2,g3,g4⟩:=afS c s hs s [] [] [] jR jR rfl (b5.nil c) (by simp) (Nat.le_refl _)
 have g1:uo ((s,((c.toNat:Int),((jR:Int),((),((0:Int),((0:Int),())))))),(([]:List F),()))=_:=g1;have ar:fl.length<=s.length:=by rw[g2];simp
 have e1:br s (fl.length:Int) ((s.length:Nat):Int)=some t:=by rw[gl ar,g2];simp
 have e2:cy 16 j4 ([t]:List F)=some (j4++[t]):=dZ (by decide) (by unfold aq;simp;omega)
 simp only[f73,g1,Option.bind_some,e1,e2,g3];rfl
noncomputable abbrev al0:bh:=[(192,Ih),(218,Ib),(225,Ia)]
theorem Bi:a7 U (bg aj al0):=bf ⟨RO,z218,RL,⟨⟩⟩
abbrev yz:Shape:=⟨[ao 0,aM 2 2 0,au 3,ae 4],[aL 2 [ai,bo,ai]],75⟩
abbrev E1:List aO:=[(.exit 0,⟨[ao 0,aM 2 2 0,au 3,ae 4],[aL 2 [ai,bo,ai]],75⟩)]
noncomputable def pP(y:yz.J):bQ yz E1:=
 bif(decide (y.1.2.2.2.1<(y.1.1.length:Int))) then
(aU y.1.1 y.1.2.2.2.1).bind fun a=>
 bif((a.toNat:Int) !=(61:Int)) then
(aU y.1.1 y.1.2.2.2.1).bind fun b=>
 bif((b.toNat:Int) !=(62:Int)) then
(aU y.1.1 y.1.2.2.2.1).bind fun c=>
 bif((c.toNat:Int) !=(60:Int)) then
 some (.inl ((y.1.1,(),y.1.2.2.1,(IntKind.i64.wrap (y.1.2.2.2.1+(1:Int))),()),(y.2.1.1,y.2.1.2.1,y.2.1.2.2.1,()),()))
else
 some (.inr ((y.1.1,(),y.1.2.2.1,y.1.2.2.2.1,()),(y.2.1.1,y.2.1.2.1,y.2.1.2.2.1,()),()))
else
 some (.inr ((y.1.1,(),y.1.2.2.1,y.1.2.2.2.1,()),(y.2.1.1,y.2.1.2.1,y.2.1.2.2.1,()),()))
else
 some (.inr ((y.1.1,(),y.1.2.2.1,y.1.2.2.2.1,()),(y.2.1.1,y.2.1.2.1,y.2.1.2.2.1,()),()))
else
 some (.inr ((y.1.1,(),y.1.2.2.1,y.1.2.2.2.1,()),(y.2.1.1,y.2.1.2.1,y.2.1.2.2.1,()),()))
noncomputable def yX:yz.J->Option (ay E1):=bx pP
theorem afi:aW U (an (codeOf Tryz.f179) 1 28) (a_ yz E1 yX):=bR Bi (by kernel_rfl) ag fun y=>by kernel_rfl
abbrev LY:Shape:=⟨[ao 0,aM 2 2 0,au 3,aM 5 5 0,ao 6,ae 7,ao 8],[aL 2 [ai,bo,ai],aL 5 [ai,bo,ai]],75⟩
abbrev LQ:List aO:=[(.norm,⟨[ao 0,aM 2 2 0,au 3,aM 5 5 0,ao 6,ae 7,ao 8,au 58],[aL 2 [ai,bo,ai],aL 5 [ai,bo,ai]],75⟩)]
noncomputable def CU(y:LY.J):Option (ay LQ):=
 bif(decide ((y.1.2.2.2.2.1.length:Int)>=(y.1.2.2.2.2.2.2.1.length:Int))) then
(br y.1.2.2.2.2.1 (0:Int) (y.1.2.2.2.2.2.2.1.length:Int)).bind fun a=>
 some ((y.1.1,(),y.1.2.2.1,(),y.1.2.2.2.2.1,y.1.2.2.2.2.2.1,y.1.2.2.2.2.2.2.1,(a==y.1.2.2.2.2.2.2.1),()),(y.2.1.1,y.2.1.2.1,y.2.1.2.2.1,()),(y.2.2.1.1,y.2.2.1.2.1,y.2.2.1.2.2.1,()),())
else
 some ((y.1.1,(),y.1.2.2.1,(),y.1.2.2.2.2.1,y.1.2.2.2.2.2.1,y.1.2.2.2.2.2.2.1,false,()),(y.2.1.1,y.2.1.2.1,y.2.1.2.2.1,()),(y.2.2.1.1,y.2.2.1.2.1,y.2.2.1.2.2.1,()),())
theorem aae:aW U (an (c8 (an (codeOf Tryz.f179) 1 506)) 1012 32402) (a_ LY LQ CU):=cS Bi (by kernel_rfl) ag fun y=>by kernel_rfl
abbrev xY:Shape:=⟨[ao 0,aM 2 2 0,au 3,aM 5 5 0,ao 6,ae 7],[aL 2 [ai,bo,ai],aL 5 [ai,bo,ai]],75⟩
abbrev DV:List aO:=[(.exit 2,⟨[ao 0,aM 2 2 0,au 3,aM 5 5 0],[aL 2 [ai,bo,ai],aL 5 [ai,bo,ai]],75⟩)]
noncomputable def ua(y:xY.J):bQ xY DV:=
 bif(decide (y.1.2.2.2.2.2.1<=(3:Int))) then
(f225 ((y.1.2.2.2.2.2.1,()),())).bind fun a=>
(CU ((y.1.1,(),y.1.2.2.1,(),y.1.2.2.2.2.1,y.1.2.2.2.2.2.1,a.1.1,()),(y.2.1.1,y.2.1.2.1,y.2.1.2.2.1,()),(y.2.2.1.1,y.2.2.1.2.1,y.2.2.1.2.2.1,()),())).bind fun b=>
 bif b.1.2.2.2.2.2.2.2.1 then
(br b.1.2.2.2.2.1 (b.1.2.2.2.2.2.2.1.length:Int) (b.1.2.2.2.2.1.length:Int)).bind fun c=>
 some (.inl ((b.1.1,(),b.1.2.2.1,(),b.1.2.2.2.2.1,(IntKind.i64.wrap (b.1.2.2.2.2.2.1+(1:Int))),()),(b.2.1.1,b.2.1.2.1,b.2.1.2.2.1,()),(b.2.2.1.1,b.1.2.2.2.2.2.1,c,()),()))
else
 some (.inl ((b.1.1,(),b.1.2.2.1,(),b.1.2.2.2.2.1,(IntKind.i64.wrap (b.1.2.2.2.2.2.1+(1:Int))),()),(b.2.1.1,b.2.1.2.1,b.2.1.2.2.1,()),(b.2.2.1.1,b.2.2.1.2.1,b.2.2.1.2.2.1,()),()))
else
 some (.inr ((y.1.1,(),y.1.2.2.1,(),()),(y.2.1.1,y.2.1.2.1,y.2.1.2.2.1,()),(y.2.2.1.1,y.2.2.1.2.1,y.2.2.1.2.2.1,()),()))
noncomputable def Ek:xY.J->Option (ay DV):=bx ua
theorem adz:aW U (an (codeOf Tryz.f179) 1 506) (a_ xY DV Ek):=bR Bi (by kernel_rfl) (a' aae ag) fun y=>by kernel_rfl
abbrev i179:Shape:=⟨[ao 0],[],75⟩
abbrev SQ:Shape:=⟨[aM 2 2 0,au 3],[aL 2 [ai,bo,ai]],75⟩
noncomputable def f179(a:i179.J):Option SQ.J:=
(yX ((a.1.1,(),false,(0:Int),()),(([]:F),(0:Int),([]:F),()),())).bind fun b=>
(br b.1.1 (0:Int) b.1.2.2.2.1).bind fun c=>
(br b.1.1 b.1.2.2.2.1 (b.1.1.length:Int)).bind fun d=>
(Ek ((b.1.1,(),b.1.2.2.1,(),d,(1:Int),()),(b.2.1.1,b.2.1.2.1,b.2.1.2.2.1,()),(c,(0:Int),([]:F),()),())).bind fun e=>
(f192 (((e.2.2.1.1,e.2.2.1.2.1,e.2.2.1.2.2.1,()),()),())).bind fun f=>
 bif f.1.1 then
(f218 (((e.2.2.1.1,e.2.2.1.2.1,e.2.2.1.2.2.1,()),()),())).bind fun g=>
 some (((),(g.1.1==e.1.1),()),(e.2.2.1.1,e.2.2.1.2.1,e.2.2.1.2.2.1,()),())
else
 some (((),false,()),(e.2.2.1.1,e.2.2.1.2.1,e.2.2.1.2.2.1,()),())
noncomputable def UL:aH:=aP aj Tryz.f179 i179 SQ [] f179
theorem ajP:aF U 179 UL:=aS Bi Tryz.func179 (by kernel_rfl) (a' afi (a' adz ag)) (fun y=>by kernel_rfl) fun a=>by kernel_rfl
theorem afU(s:F)(hs:s.length<=1000000000):∀(t a:F),s=a++t->(∀y,y∈a->eH.contains y=false)->
  ∃cL bi:F,yX ((s,((),(false,((a.length:Int),())))),((([]:F),((0:Int),(([]:F),()))),()))=some ((s,((),(false,((cL.length:Int),())))),((([]:F),((0:Int),(([]:F),()))),()))/\s=cL++bi/\(∀y,y∈cL->eH.contains y=false)/\(bi=[]\/∃x r,bi=x::r/\eH.contains x=true):=by
 intro t;induction t with
 |nil=>
  intro a h1 h2;refine⟨a,[],cm ?_,h1,h2,.inl rfl⟩;have d:decide (((a.length:Nat):Int)<(s.length:Int))=false:=decide_eq_false (by rw[h1];simp)
  simp only[pP,d,cond_false]
 |cons b r ih=>
  intro a h1 h2;have hl:s.length=a.length+1+r.length:=by rw[h1];simp;omega
  have d:decide (((a.length:Nat):Int)<(s.length:Int))=true:=decide_eq_true (by omega)
  have hx:aU s (a.length:Int)=some b:=by
   rw[b6,h1,List.getElem?_append_right (by omega)];simp
  have hw:IntKind.i64.wrap (((a.length:Nat):Int)+1)=((a.length+1:Nat):Int):=b0 (by unfold aq;omega)
  cases hb:eH.contains b with
  |true=>
   refine⟨a,b::r,cm ?_,h1,h2,.inr ⟨b,r,rfl,hb⟩⟩;have hc:b=61\/b=60\/b=62:=by simpa[eH] using hb
   rcases hc with rfl|rfl|rfl
   ·have t1:((((61:UInt8).toNat:Nat):Int) !=61)=false:=rfl;simp only[pP,d,cond_true,hx,Option.bind_some,t1,cond_false]
   ·have t1:((((60:UInt8).toNat:Nat):Int) !=61)=true:=rfl;have t2:((((60:UInt8).toNat:Nat):Int) !=62)=true:=rfl;have t3:((((60:UInt8).toNat:Nat):Int) !=60)=false:=rfl;simp only[pP,d,cond_true,hx,Option.bind_some,t1,t2,t3,cond_false]
   ·have t1:((((62:UInt8).toNat:Nat):Int) !=61)=true:=rfl;have t2:((((62:UInt8).toNat:Nat):Int) !=62)=false:=rfl;simp only[pP,d,cond_true,hx,Option.bind_some,t1,t2,cond_false]
  |false=>
   have hc:¬(b=61\/b=60\/b=62):=by
    intro h;rcases h with rfl|rfl|rfl<;>revert hb<;>decide
   have ne:∀k:UInt8,b≠k->(((b.toNat:Nat):Int) !=(k.toNat:Int))=true:=fun k hk=>by
    rw[bne_iff_ne];intro h;exact hk (UInt8.toNat_inj.1 (by omega))
   have t1:(((b.toNat:Nat):Int) !=61)=true:=ne 61 fun h=>hc (.inl h)
   have t2:(((b.toNat:Nat):Int) !=62)=true:=ne 62 fun h=>hc (.inr (.inr h))
   have t3:(((b.toNat:Nat):Int) !=60)=true:=ne 60 fun h=>hc (.inr (.inl h))
   have st:pP ((s,((),(false,((a.length:Int),())))),((([]:F),((0:Int),(([]:F),()))),()))=some (.inl ((s,((),(false,(((a.length+1:Nat):Int),())))),((([]:F),((0:Int),(([]:F),()))),()))):=by
    simp only[pP,d,cond_true,hx,Option.bind_some,t1,t2,t3,hw]
   obtain⟨cL,bi,g1,g2⟩:=ih (a++[b]) (by rw[h1];simp) (fun y hy=>by
    rcases List.mem_append.1 hy with hy|hy
    ·exact h2 y hy
    ·rw[List.mem_singleton.1 hy];exact hb)
   rw[show(a++[b]).length=a.length+1 by simp] at g1
   exact⟨cL,bi,(dD st).trans g1,g2⟩
def iG(t:F)(k:Int)(q:Int×F):Int×F:=match dJ (dz k) t with|some r=>(k,r)|none=>q
theorem Fv(s t bC v:F)(k q:Int)(h:k<=3)(h0:0<=k):
  ua ((s,((),(false,((),(t,(k,())))))),((([]:F),((0:Int),(([]:F),()))),((bC,(q,(v,()))),())))=some (.inl ((s,((),(false,((),(t,(k+1,())))))),((([]:F),((0:Int),(([]:F),()))),((bC,((iG t k (q,v)).1,((iG t k (q,v)).2,()))),())))):=by
 have d:decide (k<=3)=true:=decide_eq_true h;have e:=No k;have hw:IntKind.i64.wrap (k+1)=k+1:=ed (by omega) (by omega)
 unfold iG dJ;have Z:decide (((t.length:Nat):Int)>=(((dz k).length:Nat):Int))=decide ((dz k).length<=t.length):=by congr 1;apply propext;omega
 simp only[ua,d,cond_true,e,Option.bind_some,CU,Z];cases hc:decide ((dz k).length<=t.length) with
 |false=>simp only[cond_false,Option.bind_some,Bool.false_and,hw]
 |true=>
  have hle:=of_decide_eq_true hc;have e1:br t 0 (((dz k).length:Nat):Int)=some (t.take (dz k).length):=hO hle;have e2:br t (((dz k).length:Nat):Int) ((t.length:Nat):Int)=some (t.drop (dz k).length):=gl hle;simp only[cond_true,e1,Option.bind_some,Bool.true_and];cases t.take (dz k).length==dz k with
  |false=>simp only[cond_false,hw]
  |true=>simp only[cond_true,e2,Option.bind_some,hw]
theorem abl:∀{a cL t bi:F},a++t=cL++bi->(∀y,y∈a->eH.contains y=false)->(∀y,y∈cL->eH.contains y=false)->(t=[]\/∃x r,t=x::r/\eH.contains x=true)->(bi=[]\/∃x r,bi=x::r/\eH.contains x=true)->a=cL/\t=bi:=by
 intro a;induction a with
 |nil=>
  intro cL t bi h h1 h2 h3 ax;cases cL with
  |nil=>exact⟨rfl,h⟩
  |cons b r=>
   have hb:=h2 b List.mem_cons_self;rcases h3 with rfl|⟨x,ew,rfl,hx⟩
   ·cases h
   ·have:x=b:=by simp at h;exact h.1
    rw[this,hb] at hx;cases hx
 |cons b a ih=>
  intro cL t bi h h1 h2 h3 ax;cases cL with
  |nil=>
   have hb:=h1 b List.mem_cons_self;rcases ax with rfl|⟨x,ew,rfl,hx⟩
   ·cases h
   ·have:b=x:=by simp at h;exact h.1
    rw[<-this,hb] at hx;cases hx
  |cons bH cL=>
   simp only[List.cons_append,List.cons.injEq] at h;obtain⟨rfl,h⟩:=h;obtain⟨e1,e2⟩:=ih h (fun y hy=>h1 y (List.mem_cons_of_mem _ hy)) (fun y hy=>h2 y (List.mem_cons_of_mem _ hy)) h3 ax
   exact⟨by rw[e1],e2⟩
def e'(t:F):Int×F:=iG t 3 (iG t 2 (iG t 1 (0,[])))
theorem Fw(t:F)(k:Int)(q:Int×F)(h:q.2.length<=t.length):(iG t k q).2.length<=t.length:=by
 unfold iG;split
 ·rename_i r hr;exact Nb hr
 ·exact h
theorem Pk(t:F):(e' t).2.length<=t.length:=Fw t 3 _ (Fw t 2 _ (Fw t 1 _ (Nat.zero_le _)))
theorem Oo(s:F)(hs:s.length<=2000000):∃(a t:F) (ok:Bool),f179 ((s,()),())=some (((),(ok,())),((a,((e' t).1,((e' t).2,()))),()))/\s=a++t/\(∀y,y∈a->eH.contains y=false)/\(t=[]\/∃x r,t=x::r/\eH.contains x=true):=by
 obtain⟨a,t,g1,h1,h2,h3⟩:=afU s (by omega) s [] rfl (fun y hy=>by cases hy)
 have g1:yX ((s,((),(false,((0:Int),())))),((([]:F),((0:Int),(([]:F),()))),()))=_:=g1;have hl:s.length=a.length+t.length:=by rw[h1];simp
 have e1:br s 0 ((a.length:Nat):Int)=some a:=by rw[hO (by omega),h1];simp
 have e2:br s ((a.length:Nat):Int) ((s.length:Nat):Int)=some t:=by rw[gl (by omega),h1];simp
 have s1:=Fv s t a [] 1 0 (by decide) (by decide)
 have s2:=Fv s t a (iG t 1 (0,[])).2 2 (iG t 1 (0,[])).1 (by decide) (by decide)
 have gT:=Fv s t a (iG t 2 (iG t 1 (0,[]))).2 3 (iG t 2 (iG t 1 (0,[]))).1 (by decide) (by decide)
 have Yg:ua ((s,((),(false,((),(t,((3:Int)+1,())))))),((([]:F),((0:Int),(([]:F),()))),((a,((e' t).1,((e' t).2,()))),())))=some (.inr ((s,((),(false,((),())))),((([]:F),((0:Int),(([]:F),()))),((a,((e' t).1,((e' t).2,()))),())))):=by
  have d:decide ((3:Int)+1<=3)=false:=by decide
  simp only[ua,d,cond_false]
 have g2:Ek ((s,((),(false,((),(t,((1:Int),())))))),((([]:F),((0:Int),(([]:F),()))),((a,((0:Int),(([]:F),()))),())))=some ((s,((),(false,((),())))),((([]:F),((0:Int),(([]:F),()))),((a,((e' t).1,((e' t).2,()))),()))):=
  (dD s1).trans ((dD s2).trans ((dD gT).trans (cm Yg)))
 have hv:=Pk t;have bz:=Nt (((a,((e' t).1,((e' t).2,()))),()),()) (by show a.length<=2097152;omega) (by show(e' t).2.length<=2097152;omega)
 have dw:=On ⟨a,(e' t).1,(e' t).2⟩ ⟨by show a.length<=2097152;omega,by show(e' t).2.length<=2097152;omega⟩
 refine⟨a,t,dp ⟨a,(e' t).1,(e' t).2⟩&&cG ⟨a,(e' t).1,(e' t).2⟩==s,?_,h1,h2,h3⟩;simp only[f179,g1,Option.bind_some,e1,e2,g2,bz];cases dp ⟨a,(e' t).1,(e' t).2⟩ with
 |false=>rfl
 |true=>
  simp only[cond_true,dw,Option.bind_some];rfl
theorem Z3(s:F)(hs:s.length<=2000000):∃(n:bB) (ok:Bool),f179 ((s,()),())=some (((),(ok,())),((n.name,(n.kind,(n.a8,()))),()))/\n.name.length<=s.length/\n.a8.length<=s.length:=by
 obtain⟨a,t,ok,h,h1,_⟩:=Oo s hs;have hv:=Pk t;have hl:s.length=a.length+t.length:=by rw[h1];simp
 exact⟨⟨a,(e' t).1,(e' t).2⟩,ok,h,by show a.length<=_;omega,by show(e' t).2.length<=_;omega⟩
theorem Z2{n:bB}(h:dp n=true)(hs:(cG n).length<=2000000):∃ok:Bool,f179 ((cG n,()),())=some (((),(ok,())),((n.name,(n.kind,(n.a8,()))),())):=by
 obtain⟨a,t,ok,e,h1,h2,h3⟩:=Oo (cG n) hs;obtain⟨aD,az⟩:=wX h;have hno:=NK (Cz aD);obtain⟨bC,k,v⟩:=n;have key:∀bi:F,cG ⟨bC,k,v⟩=bC++bi->(bi=[]\/∃x r,bi=x::r/\eH.contains x=true)->e' bi=(k,v)->∃ok:Bool,f179 ((cG ⟨bC,k,v⟩,()),())=some (((),(ok,())),((bC,(k,(v,()))),())):=by
  intro bi q1 q2 dr;obtain⟨e1,e2⟩:=abl (h1.symm.trans q1) h2 hno h3 q2;subst e1 e2;rw[dr] at e;exact⟨ok,e⟩
 rcases az with⟨hk,hv⟩|⟨hk,hv⟩
 ·have hk:k=0:=hk;have hv:v=[]:=hv;subst hk hv;exact key [] (by unfold cG dz;simp) (.inl rfl) (by decide)
 ·rcases hk with hk|hk|hk
  ·have hk:k=1:=hk;subst hk;refine key (61::v) (by unfold cG dz;simp) (.inr ⟨61,v,rfl,by decide⟩) ?_
   have d1:dJ (dz 1) (61::v)=some v:=tX [61] v;have d2:dJ (dz 2) (61::v)=none:=by unfold dJ;cases v<;>simp[dz]
   have d3:dJ (dz 3) (61::v)=none:=by unfold dJ;simp[dz]
   simp only[e',iG,d1,d2,d3]
  ·have hk:k=2:=hk;subst hk;refine key (62::61::v) (by unfold cG dz;simp) (.inr ⟨62,61::v,rfl,by decide⟩) ?_
   have d1:dJ (dz 1) (62::61::v)=none:=by unfold dJ;simp[dz]
   have d2:dJ (dz 2) (62::61::v)=some v:=tX [62,61] v;have d3:dJ (dz 3) (62::61::v)=none:=by unfold dJ;simp[dz]
   simp only[e',iG,d1,d2,d3]
  ·have hk:k=3:=hk;subst hk;refine key (60::v) (by unfold cG dz;simp) (.inr ⟨60,v,rfl,by decide⟩) ?_
   have d1:dJ (dz 1) (60::v)=none:=by unfold dJ;simp[dz]
   have d2:dJ (dz 2) (60::v)=none:=by unfold dJ;cases v<;>simp[dz]
   have d3:dJ (dz 3) (60::v)=some v:=tX [60] v;simp only[e',iG,d1,d2,d3]
noncomputable abbrev alZ:bh:=[(73,to),(74,B3),(75,nZ)]
theorem vy:a7 U (bg aj alZ):=bf ⟨vC,IB,z75,⟨⟩⟩
abbrev NT:Shape:=⟨[aM 2 2 0,ao 3,au 4,bc 5 3000320,bc 6 3000384],[aL 2 [ai,bo,bo,ai],bb 3000320 .str 5 0,bb 3000384 .str 6 0],110⟩
abbrev NF:List aO:=[(.norm,⟨[aM 2 2 0,ao 3,au 4,bc 5 3000320,bc 6 3000384,au 18],[aL 2 [ai,bo,bo,ai],bb 3000320 .str 5 0,bb 3000384 .str 6 0],110⟩)]
noncomputable def mh(y:NT.J):Option (ay NF):=
(a6 y.2.2.2.1.length (0:Int)).bind fun a=>
(y.2.2.2.1[a]?).bind fun b=>
 bif(b==([100,105,114]:F)) then
 some (((),y.1.2.1,y.1.2.2.1,(),(),((y.2.2.2.1.length:Int)==(3:Int)),()),(y.2.1.1,y.2.1.2.1,y.2.1.2.2.1,y.2.1.2.2.2.1,()),y.2.2.1,y.2.2.2.1,())
else
 some (((),y.1.2.1,y.1.2.2.1,(),(),false,()),(y.2.1.1,y.2.1.2.1,y.2.1.2.2.1,y.2.1.2.2.2.1,()),y.2.2.1,y.2.2.2.1,())
theorem ady:aW U (an (codeOf Tryz.f180) 1 248) (a_ NT NF mh):=cS vy (by kernel_rfl) ag fun y=>by kernel_rfl
abbrev NS:Shape:=⟨[aM 2 2 0,ao 3,au 4,bc 5 3000320,bc 6 3000384],[aL 2 [ai,bo,bo,ai],bb 3000320 .str 5 0,bb 3000384 .str 6 0],110⟩
abbrev NE:List aO:=[(.norm,⟨[aM 2 2 0,ao 3,au 4,bc 5 3000320,bc 6 3000384,au 39],[aL 2 [ai,bo,bo,ai],bb 3000320 .str 5 0,bb 3000384 .str 6 0],110⟩)]
noncomputable def nc(y:NS.J):Option (ay NE):=
(a6 y.2.2.2.1.length (0:Int)).bind fun a=>
(y.2.2.2.1[a]?).bind fun b=>
 bif(b==([108,105,110,107]:F)) then
 some (((),y.1.2.1,y.1.2.2.1,(),(),((y.2.2.2.1.length:Int)==(3:Int)),()),(y.2.1.1,y.2.1.2.1,y.2.1.2.2.1,y.2.1.2.2.2.1,()),y.2.2.1,y.2.2.2.1,())
else
 some (((),y.1.2.1,y.1.2.2.1,(),(),false,()),(y.2.1.1,y.2.1.2.1,y.2.1.2.2.1,y.2.1.2.2.2.1,()),y.2.2.1,y.2.2.2.1,())
theorem adx:aW U (an (codeOf Tryz.f180) 1 998) (a_ NS NE nc):=cS vy (by kernel_rfl) ag fun y=>by kernel_rfl
abbrev MG:Shape:=⟨[aM 2 2 0,ao 3,au 4,bc 5 3000320,bc 6 3000384],[aL 2 [ai,bo,bo,ai],bb 3000320 .str 5 0,bb 3000384 .str 6 0],110⟩
abbrev Mo:List aO:=[(.norm,⟨[aM 2 2 0,ao 3,au 4,bc 5 3000320,bc 6 3000384,au 59],[aL 2 [ai,bo,bo,ai],bb 3000320 .str 5 0,bb 3000384 .str 6 0],110⟩)]
noncomputable def oc(y:MG.J):Option (ay Mo):=
(a6 y.2.2.2.1.length (0:Int)).bind fun a=>
(y.2.2.2.1[a]?).bind fun b=>
 bif(b==([102,105,108,101]:F)) then
 some (((),y.1.2.1,y.1.2.2.1,(),(),((y.2.2.2.1.length:Int)==(4:Int)),()),(y.2.1.1,y.2.1.2.1,y.2.1.2.2.1,y.2.1.2.2.2.1,()),y.2.2.1,y.2.2.2.1,())
else
 some (((),y.1.2.1,y.1.2.2.1,(),(),false,()),(y.2.1.1,y.2.1.2.1,y.2.1.2.2.1,y.2.1.2.2.2.1,()),y.2.2.1,y.2.2.2.1,())
theorem abE:aW U (an (codeOf Tryz.f180) 1 3998) (a_ MG Mo oc):=cS vy (by kernel_rfl) ag fun y=>by kernel_rfl
abbrev LX:Shape:=⟨[aM 2 2 0,ao 3,au 4,bc 5 3000320,bc 6 3000384,ae 7],[aL 2 [ai,bo,bo,ai],bb 3000320 .str 5 0,bb 3000384 .str 6 0],110⟩
abbrev LP:List aO:=[(.norm,⟨[aM 2 2 0,ao 3,au 4,bc 5 3000320,bc 6 3000384,ae 7,au 88],[aL 2 [ai,bo,bo,ai],bb 3000320 .str 5 0,bb 3000384 .str 6 0],110⟩)]
noncomputable def tN(y:LX.J):Option (ay LP):=
(a6 y.2.2.1.length (1:Int)).bind fun a=>
(y.2.2.1[a]?).bind fun b=>
(f75 ((y.1.2.2.2.2.2.1,(0:Int),(IntKind.i64.wrap ((b.length:Int)-(1:Int))),()),())).bind fun c=>
 bif(!(!c.1.1)) then
(a6 y.2.2.1.length (1:Int)).bind fun d=>
(y.2.2.1[d]?).bind fun e=>
(aU e y.1.2.2.2.2.2.1).bind fun f=>
 some (((),y.1.2.1,y.1.2.2.1,(),(),y.1.2.2.2.2.2.1,((f.toNat:Int) !=(10:Int)),()),(y.2.1.1,y.2.1.2.1,y.2.1.2.2.1,y.2.1.2.2.2.1,()),y.2.2.1,y.2.2.2.1,())
else
 some (((),y.1.2.1,y.1.2.2.1,(),(),y.1.2.2.2.2.2.1,true,()),(y.2.1.1,y.2.1.2.1,y.2.1.2.2.1,y.2.1.2.2.2.1,()),y.2.2.1,y.2.2.2.1,())
theorem aad:aW U (an (codeOf Tryz.f180) 1 63988) (a_ LX LP tN):=cS vy (by kernel_rfl) ag fun y=>by kernel_rfl
abbrev i180:Shape:=⟨[ao 0],[],110⟩
abbrev u':Shape:=⟨[aM 2 2 0,ao 3,au 4],[aL 2 [ai,bo,bo,ai]],110⟩
noncomputable def f180(a:i180.J):Option u'.J:=
(f73 ((a.1.1,(10:Int),(1:Int),()),())).bind fun b=>
 bif(decide ((b.2.1.length:Int)<(2:Int))) then
 some (((),([]:F),false,()),(([]:F),(0:Int),(0:Int),([]:F),()),())
else
(a6 b.2.1.length (0:Int)).bind fun c=>
(b.2.1[c]?).bind fun d=>
(f73 ((d,(32:Int),(4:Int),()),())).bind fun e=>
(mh (((),([]:F),false,(),(),()),(([]:F),(0:Int),(0:Int),([]:F),()),b.2.1,e.2.1,())).bind fun f=>
 bif f.1.2.2.2.2.2.1 then
(a6 f.2.2.2.1.length (2:Int)).bind fun g=>
(f.2.2.2.1[g]?).bind fun h=>
(a6 f.2.2.2.1.length (1:Int)).bind fun i=>
(f.2.2.2.1[i]?).bind fun j=>
(f74 ((j,()),())).bind fun k=>
(a6 f.2.2.1.length (1:Int)).bind fun l=>
(f.2.2.1[l]?).bind fun m=>
 some (((),m,true,()),(h,(1:Int),k.1.1,([]:F),()),())
else
(nc (((),f.1.2.1,f.1.2.2.1,(),(),()),(f.2.1.1,f.2.1.2.1,f.2.1.2.2.1,f.2.1.2.2.2.1,()),f.2.2.1,f.2.2.2.1,())).bind fun n=>
 bif n.1.2.2.2.2.2.1 then
(a6 n.2.2.2.1.length (1:Int)).bind fun B=>
(n.2.2.2.1[B]?).bind fun p=>
(a6 n.2.2.2.1.length (2:Int)).bind fun q=>
(n.2.2.2.1[q]?).bind fun r=>
(a6 n.2.2.1.length (1:Int)).bind fun s=>
(n.2.2.1[s]?).bind fun t=>
 some (((),t,true,()),(p,(3:Int),(0:Int),r,()),())
else
(oc (((),n.1.2.1,n.1.2.2.1,(),(),()),(n.2.1.1,n.2.1.2.1,n.2.1.2.2.1,n.2.1.2.2.2.1,()),n.2.2.1,n.2.2.2.1,())).bind fun u=>
 bif u.1.2.2.2.2.2.1 then
(a6 u.2.2.2.1.length (3:Int)).bind fun v=>
(u.2.2.2.1[v]?).bind fun w=>
(f74 ((w,()),())).bind fun x=>
(tN (((),u.1.2.1,u.1.2.2.1,(),(),x.1.1,()),(u.2.1.1,u.2.1.2.1,u.2.1.2.2.1,u.2.1.2.2.2.1,()),u.2.2.1,u.2.2.2.1,())).bind fun y=>
 bif y.1.2.2.2.2.2.2.1 then
 some (((),([]:F),false,()),(([]:F),(0:Int),(0:Int),([]:F),()),())
else
(a6 y.2.2.2.1.length (2:Int)).bind fun z=>
(y.2.2.2.1[z]?).bind fun A=>
(a6 y.2.2.2.1.length (1:Int)).bind fun bp=>
(y.2.2.2.1[bp]?).bind fun C=>
(f74 ((C,()),())).bind fun aZ=>
(a6 y.2.2.1.length (1:Int)).bind fun E=>
(y.2.2.1[E]?).bind fun aV=>
(br aV (0:Int) y.1.2.2.2.2.2.1).bind fun G=>
(a6 y.2.2.1.length (1:Int)).bind fun H=>
(y.2.2.1[H]?).bind fun I=>
(br I (IntKind.i64.wrap (y.1.2.2.2.2.2.1+(1:Int))) (I.length:Int)).bind fun eU=>
 some (((),eU,true,()),(A,(2:Int),aZ.1.1,G,()),())
else
 some (((),([]:F),false,()),(([]:F),(0:Int),(0:Int),([]:F),()),())
noncomputable def UK:aH:=aP aj Tryz.f180 i180 u' [] f180
theorem ajO:aF U 180 UK:=aS vy Tryz.func180 (by kernel_rfl) (a' ady (a' adx (a' abE (a' aad ag)))) (fun y=>by kernel_rfl) fun a=>by kernel_rfl
def gq(s:F):Int:=bif s.all cI&&decide (s.length<=6)&&!(s==[])&&!hS s then c4 s else-1
theorem pr(s:F)(hs:aq s.length):f74 ((s,()),())=some ((gq s,()),()):=EL ((s,()),()) hs
theorem Di(n:Nat)(h:n<1000000):gq (Lib.itoa (n:Int))=(n:Int):=by
 have h1:=pr (Lib.itoa (n:Int)) (by rw[py];have:=EE 5 n (by omega);unfold aq;omega)
 rw[aav n h] at h1;simp only[Option.some.injEq,Prod.mk.injEq] at h1;exact h1.1.1.symm
def qo(aN w2 cj r:F):Option (aA×F):=bif within (gq cj) 0 ((r.length:Int)-1) then(match r.drop (gq cj).toNat with|10::ew=>some (⟨w2,2,gq aN,r.take (gq cj).toNat⟩,ew)|_=>none) else none
def fM(ws:List F)(r:F):Option (aA×F):=match ws with
 |[O,aN,w2]=>bif O==ht then some (⟨w2,1,gq aN,[]⟩,r) else bif O==hh then some (⟨aN,3,0,w2⟩,r) else none
 |[O,aN,w2,cj]=>bif O==hT then qo aN w2 cj r else none
 |_=>none
def mD(s:F):Option (aA×F):=match df 10 s with
 |some (bO,r)=>fM (splitN 32 4 bO) r
 |none=>none
abbrev tB(B:Bool)(e:aA)(r:F):u'.J:=(((),(r,(B,()))),((e.path,(e.kind,(e.mode,(e.text,())))),()))
theorem IW{n:Nat}(h:0<n):a6 n (0:Int)=some 0:=fS h
theorem IV{n:Nat}(h:1<n):a6 n (1:Int)=some 1:=fS h
theorem WN{n:Nat}(h:2<n):a6 n (2:Int)=some 2:=fS h
theorem WM{n:Nat}(h:3<n):a6 n (3:Int)=some 3:=fS h
theorem Nq(s:F)(hs:s.length<=2000000):∃(r:F) (e:aA),f180 ((s,()),())=some (tB (mD s).isSome e r)/\∀q,mD s=some q->q=(e,r):=by
 have c1:=lv 10 s (by omega) 1
 have c1:f73 ((s,((10:Int),((1:Int),()))),())=_:=c1;have zero:∀{B:Option (aA×F)} {x:Option u'.J},B=none->x=some (tB false ⟨[],0,0,[]⟩ [])->∃(r:F) (e:aA),x=some (tB B.isSome e r)/\∀q,B=some q->q=(e,r):=by
  intro B x aC hx;subst aC;exact⟨[],⟨[],0,0,[]⟩,hx,fun q ar=>by cases ar⟩
 have one:∀{B:Option (aA×F)} {x:Option u'.J} {e:aA} {r:F},B=some (e,r)->x=some (tB true e r)->∃(r:F) (e:aA),x=some (tB B.isSome e r)/\∀q,B=some q->q=(e,r):=by
  intro B x e r aC hx;subst aC;exact⟨r,e,hx,fun q ar=>by cases ar;rfl⟩
 cases ar:df 10 s with
 |none=>
  have eP:splitN 10 1 s=[s]:=by unfold splitN;rw[ar]
  rw[eP] at c1;refine zero (by unfold mD;rw[ar]) ?_
  have d:decide ((([s]:List F).length:Int)<2)=true:=rfl;simp only[f180,c1,Option.bind_some,d,cond_true]
 |some q=>
  obtain⟨bO,rest⟩:=q;have hl:=(iO ar).1;have hl:s.length=bO.length+1+rest.length:=by rw[hl];simp;omega
  have eP:splitN 10 1 s=[bO,rest]:=by unfold splitN;rw[ar];rfl
  rw[eP] at c1;have c2:=lv 32 bO (by omega) 4
  have c2:f73 ((bO,((32:Int),((4:Int),()))),())=_:=c2;have hr:mD s=fM (splitN 32 4 bO) rest:=by unfold mD;rw[ar]
  have hm:=pj 32 4 bO;have hp:=LS 32 4 bO;rw[hr];generalize splitN 32 4 bO=ws at c2 hm hp;have d:decide ((([bO,rest]:List F).length:Int)<2)=false:=rfl;have i0:a6 ([bO,rest]:List F).length (0:Int)=some 0:=rfl;have i1:a6 ([bO,rest]:List F).length (1:Int)=some 1:=rfl;have e0:([bO,rest]:List F)[0]? =some bO:=rfl;have dV:([bO,rest]:List F)[1]? =some rest:=rfl;have vm:∀w:F,(w==([100,105,114]:F))=(w==ht):=fun _=>rfl
  have AF:∀w:F,(w==([108,105,110,107]:F))=(w==hh):=fun _=>rfl
  have sw:∀w:F,(w==([102,105,108,101]:F))=(w==hT):=fun _=>rfl
  have other:∀(O:F) (more:List F),ws=O::more->((ws.length:Int)==3)=false->((ws.length:Int)==4)=false->fM ws rest=none->∃(r:F) (e:aA),f180 ((s,()),())=some (tB (fM ws rest).isSome e r)/\∀q,fM ws rest=some q->q=(e,r):=by
   intro O more hw h3 ax h;refine zero h ?_
   have gU:a6 ws.length (0:Int)=some 0:=IW (by omega)
   have dq:ws[0]? =some O:=by rw[hw];rfl
   simp only[f180,c1,Option.bind_some,d,cond_false,i0,e0,c2,mh,gU,dq,h3];cases O==([100,105,114]:F)<;>simp only[cond_true,cond_false,Option.bind_some,nc,gU,dq,h3]<;>cases O==([108,105,110,107]:F)<;>simp only[cond_true,cond_false,Option.bind_some,oc,gU,dq,ax]<;>cases O==([102,105,108,101]:F)<;>rfl
  match ws,other,c2,hm,hp with
  |[],other,c2,hm,hp=>exact absurd hp (by decide)
  |[O],other,c2,hm,hp=>exact other O [] rfl rfl rfl rfl
  |[O,aN],other,c2,hm,hp=>exact other O [aN] rfl rfl rfl rfl
  |O::aN::w2::cj::qQ::more,other,c2,hm,hp=>exact other O _ rfl (by rw[beq_eq_false_iff_ne];simp;omega) (by rw[beq_eq_false_iff_ne];simp;omega) rfl
  |[O,aN,w2],_,c2,hm,hp=>
   have gU:a6 ([O,aN,w2]:List F).length (0:Int)=some 0:=rfl;have lo:a6 ([O,aN,w2]:List F).length (1:Int)=some 1:=rfl;have pc:a6 ([O,aN,w2]:List F).length (2:Int)=some 2:=rfl;have dq:([O,aN,w2]:List F)[0]? =some O:=rfl;have eB:([O,aN,w2]:List F)[1]? =some aN:=rfl;have fe:([O,aN,w2]:List F)[2]? =some w2:=rfl;have h3:((([O,aN,w2]:List F).length:Int)==3)=true:=rfl;have ax:((([O,aN,w2]:List F).length:Int)==4)=false:=rfl;have m1:=hm aN (by simp)
   have n1:=pr aN (by unfold aq;omega)
   cases eS:O==ht with
   |true=>
    refine one (show fM [O,aN,w2] rest=some (⟨w2,1,gq aN,[]⟩,rest) by unfold fM;simp only[eS,cond_true]) ?_
    simp only[f180,c1,Option.bind_some,d,cond_false,i0,e0,c2,mh,gU,dq,h3,vm,eS,cond_true,pc,fe,lo,eB,n1,i1,dV]
   |false=>
    cases e1:O==hh with
    |true=>
     refine one (show fM [O,aN,w2] rest=some (⟨aN,3,0,w2⟩,rest) by unfold fM;simp only[eS,e1,cond_true,cond_false]) ?_
     simp only[f180,c1,Option.bind_some,d,cond_false,i0,e0,c2,mh,gU,dq,h3,vm,eS,cond_true,pc,fe,lo,eB,i1,dV,nc,AF,e1]
    |false=>
     refine zero (show fM [O,aN,w2] rest=none by unfold fM;simp only[eS,e1,cond_false]) ?_
     simp only[f180,c1,Option.bind_some,d,cond_false,i0,e0,c2,mh,gU,dq,h3,ax,vm,eS,nc,AF,e1,oc];cases O==([102,105,108,101]:F)<;>rfl
  |[O,aN,w2,cj],_,c2,hm,hp=>
   have gU:a6 ([O,aN,w2,cj]:List F).length (0:Int)=some 0:=rfl;have lo:a6 ([O,aN,w2,cj]:List F).length (1:Int)=some 1:=rfl;have pc:a6 ([O,aN,w2,cj]:List F).length (2:Int)=some 2:=rfl;have Kk:a6 ([O,aN,w2,cj]:List F).length (3:Int)=some 3:=rfl;have dq:([O,aN,w2,cj]:List F)[0]? =some O:=rfl;have eB:([O,aN,w2,cj]:List F)[1]? =some aN:=rfl;have fe:([O,aN,w2,cj]:List F)[2]? =some w2:=rfl;have l':([O,aN,w2,cj]:List F)[3]? =some cj:=rfl;have h3:((([O,aN,w2,cj]:List F).length:Int)==3)=false:=rfl;have ax:((([O,aN,w2,cj]:List F).length:Int)==4)=true:=rfl;have m1:=hm aN (by simp)
   have m3:=hm cj (by simp)
   have n1:=pr aN (by unfold aq;omega)
   have io:=pr cj (by unfold aq;omega)
   have b1:∀b:Bool,(bif b then some ((((),(([]:F),(false,((),((),(false,())))))),((([]:F),((0:Int),((0:Int),(([]:F),())))),([bO,rest],([O,aN,w2,cj],()))))) else some ((((),(([]:F),(false,((),((),(false,())))))),((([]:F),((0:Int),((0:Int),(([]:F),())))),([bO,rest],([O,aN,w2,cj],()))))))=some ((((),(([]:F),(false,((),((),(false,())))))),((([]:F),((0:Int),((0:Int),(([]:F),())))),([bO,rest],([O,aN,w2,cj],()))))):=fun b=>by cases b<;>rfl
   cases e2:O==hT with
   |false=>
    refine zero (show fM [O,aN,w2,cj] rest=none by unfold fM;simp only[e2,cond_false]) ?_
    simp only[f180,c1,Option.bind_some,d,cond_false,i0,e0,c2,mh,gU,dq,h3,ax,b1,nc,oc,sw,e2]
   |true=>
    have hw:fM [O,aN,w2,cj] rest=qo aN w2 cj rest:=by unfold fM;simp only[e2,cond_true]
    rw[hw];have ja:IntKind.i64.wrap (((rest.length:Nat):Int)-1)=(rest.length:Int)-1:=ed (by omega) (by omega)
    have hin:=nm ((gq cj,((0:Int),((rest.length:Int)-1,()))),());have hin:f75 ((gq cj,((0:Int),((rest.length:Int)-1,()))),())=some ((within (gq cj) 0 ((rest.length:Int)-1),()),()):=hin;cases hi:within (gq cj) 0 ((rest.length:Int)-1) with
    |false=>
     rw[hi] at hin;refine zero (by unfold qo;rw[hi];rfl) ?_
     simp only[f180,c1,Option.bind_some,d,cond_false,i0,e0,c2,mh,gU,dq,h3,ax,b1,nc,oc,sw,e2,cond_true,Kk,l',io,tN,i1,dV,ja,hin,Bool.not_false,Bool.not_true]
    |true=>
     rw[hi] at hin;have hb:=ry hi;obtain⟨n,hn⟩:∃n:Nat,gq cj=(n:Int):=⟨(gq cj).toNat,by omega⟩
     rw[hn] at hin io hb;have hlt:n<rest.length:=by omega
     have dH:qo aN w2 cj rest=match rest.drop n with|10::ew=>some (⟨w2,2,gq aN,rest.take n⟩,ew)|_=>none:=by
      unfold qo;rw[hi,hn];rfl
     have uY:rest.drop n=rest[n]::rest.drop (n+1):=List.drop_eq_getElem_cons hlt;have hx:aU rest ((n:Nat):Int)=some rest[n]:=by rw[b6];exact List.getElem?_eq_getElem hlt
     rw[uY] at dH;rw[dH];generalize rest[n]=b at hx;by_cases qI:b=10
     ·subst qI;have t1:((((10:UInt8).toNat:Nat):Int) !=10)=false:=rfl;have s1:br rest 0 ((n:Nat):Int)=some (rest.take n):=hO (by omega)
      have anY:IntKind.i64.wrap (((n:Nat):Int)+1)=((n+1:Nat):Int):=b0 (by unfold aq;omega)
      have s2:br rest ((n+1:Nat):Int) ((rest.length:Nat):Int)=some (rest.drop (n+1)):=gl (by omega)
      refine one rfl ?_
      simp only[f180,c1,Option.bind_some,d,cond_false,i0,e0,c2,mh,gU,dq,h3,ax,b1,nc,oc,sw,e2,cond_true,Kk,l',io,tN,i1,dV,ja,hin,Bool.not_false,Bool.not_true,hx,t1,pc,fe,lo,eB,n1,s1,anY,s2]
     ·have t1:(((b.toNat:Nat):Int) !=10)=true:=by
       rw[bne_iff_ne];intro h;exact qI (UInt8.toNat_inj.1 (by have:((10:UInt8).toNat:Int)=10:=rfl;omega))
      refine zero (by split<;>first|rfl|(rename_i h;simp at h;exact absurd h.1 qI)) ?_
      simp only[f180,c1,Option.bind_some,d,cond_false,i0,e0,c2,mh,gU,dq,h3,ax,b1,nc,oc,sw,e2,cond_true,Kk,l',io,tN,i1,dV,ja,hin,Bool.not_false,Bool.not_true,hx,t1]
theorem O6{s r:F}{e:aA}(h:mD s=some (e,r)):e.path.length<=s.length/\e.text.length<=s.length/\r.length<s.length:=by
 unfold mD at h;cases ar:df 10 s with
 |none=>rw[ar] at h;cases h
 |some q=>
  obtain⟨bO,rest⟩:=q;rw[ar] at h;have hl:=(iO ar).1;have hl:s.length=bO.length+1+rest.length:=by rw[hl];simp;omega
  have hm:=pj 32 4 bO;have h:fM (splitN 32 4 bO) rest=some (e,r):=h;generalize splitN 32 4 bO=ws at h hm;unfold fM at h;split at h
  ·rename_i O aN w2;have m1:=hm aN (by simp)
   have m2:=hm w2 (by simp)
   cases eS:O==ht<;>simp only[eS,cond_true,cond_false] at h
   ·cases e1:O==hh<;>simp only[e1,cond_true,cond_false] at h
    ·cases h
    ·simp only[Option.some.injEq,Prod.mk.injEq] at h;obtain⟨rfl,rfl⟩:=h;exact⟨by show aN.length<=_;omega,by show w2.length<=_;omega,by omega⟩
   ·simp only[Option.some.injEq,Prod.mk.injEq] at h;obtain⟨rfl,rfl⟩:=h;exact⟨by show w2.length<=_;omega,by show 0<=_;omega,by omega⟩
  ·rename_i O aN w2 cj;have m2:=hm w2 (by simp)
   cases e2:O==hT<;>simp only[e2,cond_true,cond_false] at h
   ·cases h
   ·unfold qo at h;cases dw:within (gq cj) 0 ((rest.length:Int)-1)<;>simp only[dw,cond_true,cond_false] at h
    ·cases h
    ·split at h
     ·rename_i ew Z;simp only[Option.some.injEq,Prod.mk.injEq] at h;obtain⟨rfl,rfl⟩:=h;have Jj:=congrArg List.length Z;simp only[List.length_drop,List.length_cons] at Jj;exact⟨by show w2.length<=_;omega,by show(rest.take _).length<=_;simp;omega,by omega⟩
     ·cases h
  ·cases h
theorem aeP{e:aA}(h:eJ e=true)(r:F):mD (d_ e++r)=some (e,r):=by
 have hw:=(C0 h).1;unfold mD;rw[M0 h];show fM (splitN 32 4 (oC e)) (uS e r)=_;obtain⟨n,hn,iq⟩:=D9 h;have g2:=Di n (by omega)
 have qs:splitN 32 4 (oC e)=lD e:=K6 _ 4 (by unfold lD;cases e.kind==1<;>cases e.kind==3<;>simp) hw (by unfold lD;cases e.kind==1<;>cases e.kind==3<;>simp)
 rw[qs];obtain⟨p,k,m,t⟩:=e;have hn:m=n:=hn;subst hn;rcases tP h with hk|hk|hk
 ·have hk:k=1:=hk;subst hk;have ap:t=[]:=M' h rfl;subst ap;show fM [ht,Lib.itoa (n:Int),p] r=_;unfold fM;have e2:(ht==ht)=true:=by decide
  simp only[e2,g2,cond_true]
 ·have hk:k=2:=hk;subst hk;have hb:t.length<=80:=by
   have:=L9 h rfl;unfold nn at this;simp only[Bool.and_eq_true,decide_eq_true_eq] at this;exact this.2
  have az:=Di t.length (by omega)
  show fM [hT,Lib.itoa (n:Int),p,Lib.itoa (t.length:Int)] (t++10::r)=_;unfold fM;have bz:(hT==hT)=true:=by decide
  simp only[bz,cond_true];unfold qo;have d1:(t++10::r).drop t.length=10::r:=by simp
  have d2:(t++10::r).take t.length=t:=by simp
  have hw:within (t.length:Int) 0 (((t++10::r).length:Int)-1)=true:=by
   unfold within;rw[decide_eq_true (by omega),decide_eq_true (by simp;omega)]
   rfl
  simp only[az,hw,cond_true,Int.toNat_natCast,d1,d2,g2]
 ·have hk:k=3:=hk;subst hk;obtain⟨_,hm⟩:=CX h rfl;have hm:(n:Int)=0:=hm;show fM [hh,p,t] r=_;unfold fM;have e1:(hh==ht)=false:=by decide
  have e2:(hh==hh)=true:=by decide
  simp only[e1,e2,cond_true,cond_false];rw[hm]
end Go.Proofs
