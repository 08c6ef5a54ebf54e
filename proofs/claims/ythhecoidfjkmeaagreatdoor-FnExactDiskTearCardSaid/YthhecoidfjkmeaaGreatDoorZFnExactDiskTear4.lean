/- FnExactDiskTear: the program's DiskTear returns what the reference's returns, for all arguments. (part 5 of 7: JkKPuSa, JkKF277, JkKF257, JkKPuSb, JkKF121, JkKPuSc, JkKF256, JkKF220, JkKPuSd, JkKF122v0, JkKF219, JkKF173, JkKF69, JkKPuSe, JkKF63v0, JkKPl, JkKFH64, JkKF120, JkKF83, JkKF226, JkKF181, JkKPuPa, JkK) Conditions: none beyond the statement. -/
import Derived.Test.YthhecoidfjkmeaaGreatDoorZFnExactDiskTear3
import Derived.Tactics
import Derived.Deep.RegionLaw
import Derived.Shelf.Abstract
import Derived.Test.YthhecoidfjkmeaaGreatDoorProg
import Derived.KernelRfl
import Derived.Shelf.LaysM
import Derived.Shelf.Strconv.Itoa3
import Derived.Shelf.Strings.IndexAnyAll
import Derived.Laws.RangeAny
import Derived.Lib.OthersKept
import Derived.Shelf.Small.Utf8
import Derived.Laws.Runes
import Derived.Laws.Cover4
import Derived.WalkMore
import Derived.Shelf.RegionOpenPlain
set_option maxRecDepth 100000
set_option linter.unusedVariables false
set_option linter.unusedSimpArgs false
namespace Go.Proofs
open Go.Jk
theorem fx{J bh:Type}{g:J->Option (Sum J bh)}(st:Nat->J)(n:Nat){b:bh}(h:∀i,i<n->g (st i)=some (.inl (st (i+1))))(he:g (st n)=some (.inr b)):∀k i,i+k=n->bv g (st i)=some b:=by
 intro k;induction k with
 |zero=>
  intro i hi;obtain rfl:i=n:=by omega
  exact ca he
 |succ k ih=>
  intro i hi;rw[dz (h i (by omega))]
  exact ih (i+1) (by omega)
theorem aeR(k:IntKind)(x y:Int):hN k x y=hN k y x:=by unfold hN;rw[BitVec.or_comm]
def kq(x n:Int):Int:=hN .u32 (x.fdiv (2^n.toNat)) (IntKind.u32.wrap (x*2^(32-n).toNat))
def eH(n:Int):Prop:=n=2\/n=6\/n=7\/n=11\/n=13\/n=17\/n=18\/n=19\/n=22\/n=25
theorem mq(x n:Int)(h:eH n):f278 ((x,(n,())),())=some ((kq x n,()),()):=by
 rcases h with rfl|rfl|rfl|rfl|rfl|rfl|rfl|rfl|rfl|rfl<;>rfl
theorem ht(x n:Int)(h:eH n):f171 ((x,(n,())),())=some ((kq x n,()),()):=by
 have a2:ew .u64 (IntKind.u64.wrap (IntKind.i64.wrap (0-2))) 31=30:=by decide
 have w4:ew .u64 (IntKind.u64.wrap (IntKind.i64.wrap (0-6))) 31=26:=by decide
 have w3:ew .u64 (IntKind.u64.wrap (IntKind.i64.wrap (0-7))) 31=25:=by decide
 have KA:ew .u64 (IntKind.u64.wrap (IntKind.i64.wrap (0-11))) 31=21:=by decide
 have aq9:ew .u64 (IntKind.u64.wrap (IntKind.i64.wrap (0-13))) 31=19:=by decide
 have aq7:ew .u64 (IntKind.u64.wrap (IntKind.i64.wrap (0-17))) 31=15:=by decide
 have aq6:ew .u64 (IntKind.u64.wrap (IntKind.i64.wrap (0-18))) 31=14:=by decide
 have aq5:ew .u64 (IntKind.u64.wrap (IntKind.i64.wrap (0-19))) 31=13:=by decide
 have aq4:ew .u64 (IntKind.u64.wrap (IntKind.i64.wrap (0-22))) 31=10:=by decide
 have aq3:ew .u64 (IntKind.u64.wrap (IntKind.i64.wrap (0-25))) 31=7:=by decide
 unfold kq;rw[aeR];rcases h with rfl|rfl|rfl|rfl|rfl|rfl|rfl|rfl|rfl|rfl<;>simp only[f171,f217,a2,w4,w3,KA,aq9,aq7,aq6,aq5,aq4,aq3]<;>rfl
theorem ou{x:Int}(h0:0<=x)(h1:x<4294967296):IntKind.u32.wrap x=x:=by rw[IntKind.wrap_u32];omega
theorem DK{a:Nat}(h:a<4294967296):(BitVec.ofInt IntKind.u32.bits (a:Int)).toNat=a:=by
 rw[BitVec.ofInt_natCast,BitVec.toNat_ofNat];exact Nat.mod_eq_of_lt h
theorem zc{m y k:Nat}(hy:y<2^k)(h:m*2^k+y<4294967296):hN .u32 ((m*2^k:Nat):Int) (y:Int)=((m*2^k+y:Nat):Int):=by
 unfold hN;rw[BitVec.toNat_or,DK (by omega),DK (by omega),<-Nat.shiftLeft_eq,<-Nat.shiftLeft_add_eq_or_of_lt hy,Nat.shiftLeft_eq,ou (by omega) (by omega)]
abbrev kb(x:Int):Prop:=0<=x/\x<=255
def wd(a b c d:Int):Int:=a*16777216+b*65536+c*256+d
def gO(w c:Int):Int:=hN .u32 (IntKind.u32.wrap (w*256)) (IntKind.u32.wrap c)
theorem xz{w c:Nat}(hw:w<16777216)(hc:c<256):gO w c=((w*256+c:Nat):Int):=by
 unfold gO;rw[ou (x:=(w:Int)*256) (by omega) (by omega),ou (x:=(c:Int)) (by omega) (by omega)]
 exact zc (k:=8) (by omega) (by omega)
theorem oH{x:Int}(h:kb x):∃n:Nat,x=n/\n<256:=by
 obtain⟨n,rfl⟩:=Int.eq_ofNat_of_zero_le h.1;exact⟨n,rfl,by omega⟩
theorem afF{a b c d:Int}(ha:kb a)(hb:kb b)(hc:kb c)(Z:kb d):gO (gO (gO (gO 0 a) b) c) d=wd a b c d:=by
 obtain⟨a,rfl,rc⟩:=oH ha;obtain⟨b,rfl,rb⟩:=oH hb;obtain⟨c,rfl,wV⟩:=oH hc;obtain⟨d,rfl,wU⟩:=oH Z;have eI:gO 0 (a:Int)=((0*256+a:Nat):Int):=xz (w:=0) (by omega) rc
 rw[eI,xz (by omega) rb,xz (by omega) wV,xz (by omega) wU]
 unfold wd;omega
theorem afE{a b c d:Int}(ha:kb a)(hb:kb b)(hc:kb c)(Z:kb d):
  hN .u32 (hN .u32 (hN .u32 (IntKind.u32.wrap (IntKind.u32.wrap a*16777216)) (IntKind.u32.wrap (IntKind.u32.wrap b*65536))) (IntKind.u32.wrap (IntKind.u32.wrap c*256))) (IntKind.u32.wrap d)=wd a b c d:=by
 obtain⟨a,rfl,rc⟩:=oH ha;obtain⟨b,rfl,rb⟩:=oH hb;obtain⟨c,rfl,wV⟩:=oH hc;obtain⟨d,rfl,wU⟩:=oH Z;have w:∀{x:Nat},x<256->IntKind.u32.wrap (x:Int)=x:=fun h=>ou (by omega) (by omega)
 rw[w rc,w rb,w wV,w wU,ou (x:=(a:Int)*16777216) (by omega) (by omega),ou (x:=(b:Int)*65536) (by omega) (by omega),ou (x:=(c:Int)*256) (by omega) (by omega)]
 have e1:hN .u32 ((a:Int)*16777216) ((b:Int)*65536)=(((a*256+b)*2^16:Nat):Int):=by
  have:=zc (m:=a) (y:=b*65536) (k:=24) (by omega) (by omega)
  rw[show((a:Int)*16777216)=((a*2^24:Nat):Int) by omega,show((b:Int)*65536)=((b*65536:Nat):Int) by omega,this];omega
 have e2:hN .u32 (((a*256+b)*2^16:Nat):Int) ((c:Int)*256)=((((a*256+b)*256+c)*2^8:Nat):Int):=by
  have:=zc (m:=a*256+b) (y:=c*256) (k:=16) (by omega) (by omega)
  rw[show((c:Int)*256)=((c*256:Nat):Int) by omega,this];omega
 have bp:=zc (m:=(a*256+b)*256+c) (y:=d) (k:=8) (by omega) (by omega)
 rw[e1,e2,bp];unfold wd;omega
def gb(b:List Int)(i:Nat):Int:=b.getD i 0
def Jx(x:Int):Int:=dl .u32 (dl .u32 (kq x 7) (kq x 18)) (x.fdiv 8)
def Jw(x:Int):Int:=dl .u32 (dl .u32 (kq x 17) (kq x 19)) (x.fdiv 1024)
def vt(w:List Int)(i:Nat):Int:=IntKind.u32.wrap (IntKind.u32.wrap (IntKind.u32.wrap (gb w (i-16)+Jx (gb w (i-15)))+gb w (i-7))+Jw (gb w (i-2)))
def cj(b:List Int):Nat->List Int
 |0=>[]
 |i+1=>cj b i++[bif decide (i<16) then wd (gb b (4*i)) (gb b (4*i+1)) (gb b (4*i+2)) (gb b (4*i+3)) else vt (cj b i) i]
theorem nr(b:List Int):∀i,(cj b i).length=i
 |0=>rfl
 |i+1=>by simp[cj,nr b i]
theorem lM{b:List Int}{j:Nat}(h:j<b.length):b[j]? =some (gb b j):=by
 unfold gb;rw[List.getD_eq_getElem?_getD,List.getElem?_eq_getElem h];rfl
theorem vd{b:List Int}{j:Nat}(h:j<b.length):aU b (j:Int)=some (gb b j):=by rw[bX];exact lM h
theorem Sr(x:Int):e7 .u32 x 3=some (x.fdiv 8):=rfl
theorem RG(x:Int):e7 .u32 x 10=some (x.fdiv 1024):=rfl
theorem aji(x:Int):lh .u32 x 24=some (IntKind.u32.wrap (x*16777216)):=rfl
theorem ajj(x:Int):lh .u32 x 16=some (IntKind.u32.wrap (x*65536)):=rfl
theorem vo(x:Int):lh .u32 x 8=some (IntKind.u32.wrap (x*256)):=rfl
abbrev q5(b:List Int):Prop:=b.length=64/\∀x,x∈b->kb x
theorem q5.pn{b:List Int}(h:q5 b){j:Nat}(hj:j<64):kb (gb b j):=by
 refine h.2 _ ?_
 have:=lM (b:=b) (j:=j) (by rw[h.1];exact hj)
 exact List.mem_of_getElem? this
theorem q7{i:Nat}(h:i<=64)(j:Nat)(hj:j<=4):IntKind.i64.wrap (IntKind.i64.wrap ((4:Int)*(i:Int))+(j:Int))=((4*i+j:Nat):Int):=by
 rw[eg (n:=4*(i:Int)) (by omega) (by omega),eg (by omega) (by omega)];omega
theorem tb{i:Nat}(h:i<=64):IntKind.i64.wrap ((4:Int)*(i:Int))=((4*i:Nat):Int):=by
 rw[eg (n:=4*(i:Int)) (by omega) (by omega)];omega
theorem pr{i:Nat}{q:Int}(k:Nat)(e:q=(k:Int))(h:i<=64)(hk:k<=i):IntKind.i64.wrap ((i:Int)-q)=((i-k:Nat):Int):=by
 subst e;rw[eg (by omega) (by omega)];omega
theorem wp{i:Nat}(h:i<=64):IntKind.i64.wrap ((i:Int)+1)=((i+1:Nat):Int):=bS (by unfold ap;omega)
theorem abS(b:List Int)(h:q5 b):f276 ((b,()),())=some (((),()),(cj b 64,())):=by
 have aB:F6 ((b,((),((0:Int),()))),(([]:List Int),()))=some (((),()),(cj b 16,())):=by
  refine fx (g:=GC) (fun i=>((b,((),((i:Int),()))),(cj b i,()))) 16 (fun i hi=>?_) rfl 16 0 rfl
  have hl:decide ((i:Int)<16)=true:=by simp;omega
  have h0:=vd (b:=b) (j:=4*i) (by rw[h.1];omega)
  have h1:=vd (b:=b) (j:=4*i+1) (by rw[h.1];omega)
  have h2:=vd (b:=b) (j:=4*i+2) (by rw[h.1];omega)
  have h3:=vd (b:=b) (j:=4*i+3) (by rw[h.1];omega)
  have q1:IntKind.i64.wrap (((4*i:Nat):Int)+1)=((4*i+1:Nat):Int):=by have:=q7 (i:=i) (by omega) 1 (by omega);rwa[tb (by omega)] at this
  have q2:IntKind.i64.wrap (((4*i:Nat):Int)+2)=((4*i+2:Nat):Int):=by have:=q7 (i:=i) (by omega) 2 (by omega);rwa[tb (by omega)] at this
  have cU:IntKind.i64.wrap (((4*i:Nat):Int)+3)=((4*i+3:Nat):Int):=by have:=q7 (i:=i) (by omega) 3 (by omega);rwa[tb (by omega)] at this
  have hw:=afE (h.pn (j:=4*i) (by omega)) (h.pn (j:=4*i+1) (by omega)) (h.pn (j:=4*i+2) (by omega)) (h.pn (j:=4*i+3) (by omega))
  have Z:decide (i<16)=true:=by simpa using hi
  simp only[GC,hl,cond_true,tb (i:=i) (by omega),q1,q2,cU,h0,h1,h2,h3,Option.bind_some,aji,ajj,vo,hw,wp (i:=i) (by omega)]
  rw[d' (by decide) (by rw[nr];unfold ap;simp;omega)]
  simp only[Option.bind_some,cj,Z,cond_true]
 have aA:EL (((),((16:Int),())),(cj b 16,()))=some (((),()),(cj b 64,())):=by
  refine fx (g:=E3) (fun i=>(((),(((16+i:Nat):Int),())),(cj b (16+i),()))) 48 (fun i hi=>?_) rfl 48 0 rfl
  have hl:decide (((16+i:Nat):Int)<64)=true:=by simp;omega
  have hlen:=nr b (16+i);have Z:decide (16+i<16)=false:=by simp
  have t7:=fun x=>mq x 7 (by simp[eH]);have t18:=fun x=>mq x 18 (by simp[eH])
  have t17:=fun x=>mq x 17 (by simp[eH]);have t19:=fun x=>mq x 19 (by simp[eH])
  have i15:a8 (cj b (16+i)).length (IntKind.i64.wrap (((16+i:Nat):Int)-15))=some (16+i-15):=by rw[pr (i:=16+i) (q:=15) 15 rfl (by omega) (by omega)];exact fq (by rw[hlen];omega)
  have i2:a8 (cj b (16+i)).length (IntKind.i64.wrap (((16+i:Nat):Int)-2))=some (16+i-2):=by rw[pr (i:=16+i) (q:=2) 2 rfl (by omega) (by omega)];exact fq (by rw[hlen];omega)
  have i16:a8 (cj b (16+i)).length (IntKind.i64.wrap (((16+i:Nat):Int)-16))=some (16+i-16):=by rw[pr (i:=16+i) (q:=16) 16 rfl (by omega) (by omega)];exact fq (by rw[hlen];omega)
  have i7:a8 (cj b (16+i)).length (IntKind.i64.wrap (((16+i:Nat):Int)-7))=some (16+i-7):=by rw[pr (i:=16+i) (q:=7) 7 rfl (by omega) (by omega)];exact fq (by rw[hlen];omega)
  have g15:=lM (b:=cj b (16+i)) (j:=16+i-15) (by rw[hlen];omega)
  have g2:=lM (b:=cj b (16+i)) (j:=16+i-2) (by rw[hlen];omega)
  have g16:=lM (b:=cj b (16+i)) (j:=16+i-16) (by rw[hlen];omega)
  have g7:=lM (b:=cj b (16+i)) (j:=16+i-7) (by rw[hlen];omega)
  simp only[E3,hl,cond_true,i15,i2,i16,i7,g15,g2,g16,g7,Option.bind_some,t7,t18,t17,t19,Sr,RG,wp (i:=16+i) (by omega)]
  rw[d' (by decide) (by rw[hlen];unfold ap;simp;omega)]
  have hs:cj b (16+(i+1))=cj b (16+i)++[vt (cj b (16+i)) (16+i)]:=by
   show cj b ((16+i)+1)=_;simp only[cj,Z,cond_false]
  simp only[Option.bind_some,hs,vt,Jx,Jw];rfl
 have hm:jE 4 (0:Int) (64:Int) (0:Int)=some ([]:List Int):=rfl;simp only[f276,hm,Option.bind_some,aB,aA]
abbrev i277:Shape:=⟨[],[],2⟩
abbrev SD:Shape:=⟨[bc 0 3000000],[bb 3000000 .u32 0 0],2⟩
noncomputable def f277(a:i277.J):Option SD.J:=
 some (((),()),([(1116352408:Int),(1899447441:Int),(3049323471:Int),(3921009573:Int),(961987163:Int),(1508970993:Int),(2453635748:Int),(2870763221:Int),(3624381080:Int),(310598401:Int),(607225278:Int),(1426881987:Int),(1925078388:Int),(2162078206:Int),(2614888103:Int),(3248222580:Int),(3835390401:Int),(4022224774:Int),(264347078:Int),(604807628:Int),(770255983:Int),(1249150122:Int),(1555081692:Int),(1996064986:Int),(2554220882:Int),(2821834349:Int),(2952996808:Int),(3210313671:Int),(3336571891:Int),(3584528711:Int),(113926993:Int),(338241895:Int),(666307205:Int),(773529912:Int),(1294757372:Int),(1396182291:Int),(1695183700:Int),(1986661051:Int),(2177026350:Int),(2456956037:Int),(2730485921:Int),(2820302411:Int),(3259730800:Int),(3345764771:Int),(3516065817:Int),(3600352804:Int),(4094571909:Int),(275423344:Int),(430227734:Int),(506948616:Int),(659060556:Int),(883997877:Int),(958139571:Int),(1322822218:Int),(1537002063:Int),(1747873779:Int),(1955562222:Int),(2024104815:Int),(2227730452:Int),(2361852424:Int),(2428436474:Int),(2756734187:Int),(3204031479:Int),(3329325298:Int)]:List Int),())
noncomputable def UH:aH:=aP aj Tryz.f277 i277 SD [] f277
theorem akg:aG U 277 UH:=aS g0 Tryz.func277 (by kernel_rfl) ag (fun y=>by kernel_rfl) fun a=>by kernel_rfl
noncomputable abbrev amw:bi:=[(276,UI),(277,UH),(278,IW)]
theorem BJ:a_ U (bg aj amw):=bf ⟨akh,akg,Sd,⟨⟩⟩
abbrev w_:Shape:=⟨[aK 0 .u32,bc 5 3000320,bc 6 3000384,bc 7 3000448,ae 8,(11,.ak (.d (.int .u32))),(12,.ak (.d (.int .u32))),(13,.ak (.d (.int .u32))),ae 14],[bb 3000320 .u32 5 0,bb 3000384 .u32 6 0,bb 3000448 .u32 7 0],155⟩
abbrev CZ:List aO:=[(.exit 2,⟨[aK 0 .u32,bc 5 3000320,bc 6 3000384,bc 7 3000448,ae 8,(11,.ak (.d (.int .u32))),(12,.ak (.d (.int .u32))),(13,.ak (.d (.int .u32)))],[bb 3000320 .u32 5 0,bb 3000384 .u32 6 0,bb 3000448 .u32 7 0],155⟩)]
noncomputable def L2(y:w_.J):bR w_ CZ:=
 bif(decide (y.1.2.2.2.2.2.2.2.2.1>(0:Int))) then
(a8 y.2.2.2.1.length (IntKind.i64.wrap (y.1.2.2.2.2.2.2.2.2.1-(1:Int)))).bind fun a=>
(y.2.2.2.1[a]?).bind fun b=>
(a8 y.2.2.2.1.length y.1.2.2.2.2.2.2.2.2.1).bind fun c=>
((y.2.2.2.1[c]?).bind fun q=>some b).bind fun d=>
 some (.inl ((y.1.1,(),(),(),y.1.2.2.2.2.1,y.1.2.2.2.2.2.1,y.1.2.2.2.2.2.2.1,y.1.2.2.2.2.2.2.2.1,(IntKind.i64.wrap (y.1.2.2.2.2.2.2.2.2.1-(1:Int))),()),y.2.1,y.2.2.1,(y.2.2.2.1.set c d),()))
else
 some (.inr ((y.1.1,(),(),(),y.1.2.2.2.2.1,y.1.2.2.2.2.2.1,y.1.2.2.2.2.2.2.1,y.1.2.2.2.2.2.2.2.1,()),y.2.1,y.2.2.1,y.2.2.2.1,()))
noncomputable def C1:w_.J->Option (aD CZ):=bv L2
theorem _j:aY U (an (da (an (codeOf Tryz.f257) 1 250)) 500 1025274) (a' w_ CZ C1):=bT BJ (by kernel_rfl) ag fun y=>by kernel_rfl
abbrev x5:Shape:=⟨[aK 0 .u32,bc 5 3000320,bc 6 3000384,bc 7 3000448,ae 8],[bb 3000320 .u32 5 0,bb 3000384 .u32 6 0,bb 3000448 .u32 7 0],155⟩
abbrev Ek:List aO:=[(.exit 0,⟨[aK 0 .u32,bc 7 3000448],[bb 3000448 .u32 7 0],155⟩)]
noncomputable def E4(y:x5.J):bR x5 Ek:=
 bif(decide (y.1.2.2.2.2.1<(64:Int))) then
(a8 y.2.2.2.1.length (4:Int)).bind fun a=>
(y.2.2.2.1[a]?).bind fun b=>
(f278 ((b,(6:Int),()),())).bind fun c=>
(a8 y.2.2.2.1.length (4:Int)).bind fun d=>
(y.2.2.2.1[d]?).bind fun e=>
(f278 ((e,(11:Int),()),())).bind fun f=>
(a8 y.2.2.2.1.length (4:Int)).bind fun g=>
(y.2.2.2.1[g]?).bind fun h=>
(f278 ((h,(25:Int),()),())).bind fun i=>
(a8 y.2.2.2.1.length (4:Int)).bind fun j=>
(y.2.2.2.1[j]?).bind fun k=>
(a8 y.2.2.2.1.length (5:Int)).bind fun l=>
(y.2.2.2.1[l]?).bind fun m=>
(a8 y.2.2.2.1.length (4:Int)).bind fun n=>
(y.2.2.2.1[n]?).bind fun B=>
(a8 y.2.2.2.1.length (6:Int)).bind fun p=>
(y.2.2.2.1[p]?).bind fun r=>
(a8 y.2.2.2.1.length (7:Int)).bind fun s=>
(y.2.2.2.1[s]?).bind fun t=>
(a8 y.2.2.1.length y.1.2.2.2.2.1).bind fun u=>
(y.2.2.1[u]?).bind fun v=>
(a8 y.2.1.length y.1.2.2.2.2.1).bind fun w=>
(y.2.1[w]?).bind fun x=>
(a8 y.2.2.2.1.length (0:Int)).bind fun z=>
(y.2.2.2.1[z]?).bind fun A=>
(f278 ((A,(2:Int),()),())).bind fun bh=>
(a8 y.2.2.2.1.length (0:Int)).bind fun C=>
(y.2.2.2.1[C]?).bind fun aZ=>
(f278 ((aZ,(13:Int),()),())).bind fun E=>
(a8 y.2.2.2.1.length (0:Int)).bind fun aX=>
(y.2.2.2.1[aX]?).bind fun G=>
(f278 ((G,(22:Int),()),())).bind fun H=>
(a8 y.2.2.2.1.length (0:Int)).bind fun I=>
(y.2.2.2.1[I]?).bind fun eV=>
(a8 y.2.2.2.1.length (1:Int)).bind fun K=>
(y.2.2.2.1[K]?).bind fun L=>
(a8 y.2.2.2.1.length (0:Int)).bind fun e5=>
(y.2.2.2.1[e5]?).bind fun N=>
(a8 y.2.2.2.1.length (2:Int)).bind fun ato=>
(y.2.2.2.1[ato]?).bind fun P=>
(a8 y.2.2.2.1.length (1:Int)).bind fun Q=>
(y.2.2.2.1[Q]?).bind fun R=>
(a8 y.2.2.2.1.length (2:Int)).bind fun S=>
(y.2.2.2.1[S]?).bind fun T=>
(C1 ((y.1.1,(),(),(),y.1.2.2.2.2.1,(IntKind.u32.wrap ((IntKind.u32.wrap ((IntKind.u32.wrap ((IntKind.u32.wrap (t+(dl .u32 (dl .u32 c.1.1 f.1.1) i.1.1)))+(dl .u32 (ew .u32 k m) (ew .u32 (dl .u32 4294967295 B) r))))+v))+x)),(dl .u32 (dl .u32 bh.1.1 E.1.1) H.1.1),(dl .u32 (dl .u32 (ew .u32 eV L) (ew .u32 N P)) (ew .u32 R T)),(7:Int),()),y.2.1,y.2.2.1,y.2.2.2.1,())).bind fun dO=>
(a8 dO.2.2.2.1.length (4:Int)).bind fun V=>
(dO.2.2.2.1[V]?).bind fun W=>
(a8 dO.2.2.2.1.length (4:Int)).bind fun X=>
((dO.2.2.2.1[X]?).bind fun q=>some (IntKind.u32.wrap (W+dO.1.2.2.2.2.2.1))).bind fun LK=>
(a8 (dO.2.2.2.1.set X LK).length (0:Int)).bind fun a0=>
(((dO.2.2.2.1.set X LK)[a0]?).bind fun q=>some (IntKind.u32.wrap ((IntKind.u32.wrap (dO.1.2.2.2.2.2.1+dO.1.2.2.2.2.2.2.1))+dO.1.2.2.2.2.2.2.2.1))).bind fun a1=>
 some (.inl ((dO.1.1,(),(),(),(IntKind.i64.wrap (dO.1.2.2.2.2.1+(1:Int))),()),dO.2.1,dO.2.2.1,((dO.2.2.2.1.set X LK).set a0 a1),()))
else
 some (.inr ((y.1.1,(),()),y.2.2.2.1,()))
noncomputable def EM:x5.J->Option (aD Ek):=bv E4
theorem aeu:aY U (an (codeOf Tryz.f257) 1 250) (a' x5 Ek EM):=bT BJ (by kernel_rfl) (ba _j ag) fun y=>by kernel_rfl
abbrev xD:Shape:=⟨[aK 0 .u32,bc 7 3000448,bc 15 3000960,ae 16],[bb 3000448 .u32 7 0,bb 3000960 .u32 15 0],155⟩
abbrev Dt:List aO:=[(.exit 4,⟨[bc 15 3000960],[bb 3000960 .u32 15 0],155⟩)]
noncomputable def NW(y:xD.J):bR xD Dt:=
 bif(decide (y.1.2.2.2.1<(8:Int))) then
(aU y.1.1 y.1.2.2.2.1).bind fun a=>
(a8 y.2.1.length y.1.2.2.2.1).bind fun b=>
(y.2.1[b]?).bind fun c=>
(cy 4 y.2.2.1 ([(IntKind.u32.wrap (a+c))]:List Int)).bind fun d=>
 some (.inl ((y.1.1,(),(),(IntKind.i64.wrap (y.1.2.2.2.1+(1:Int))),()),y.2.1,d,()))
else
 some (.inr (((),()),y.2.2.1,()))
noncomputable def DQ:xD.J->Option (aD Dt):=bv NW
theorem acv:aY U (an (codeOf Tryz.f257) 1 1018) (a' xD Dt DQ):=bT BJ (by kernel_rfl) ag fun y=>by kernel_rfl
abbrev i257:Shape:=⟨[aK 0 .u32,aK 1 .u8],[],155⟩
abbrev SI:Shape:=⟨[bc 4 3000256],[bb 3000256 .u32 4 0],155⟩
noncomputable def f257(a:i257.J):Option SI.J:=
(f276 ((a.1.2.1,()),())).bind fun b=>
(f277 ((),())).bind fun c=>
(cy 4 ([]:List Int) a.1.1).bind fun d=>
(EM ((a.1.1,(),(),(),(0:Int),()),b.2.1,c.2.1,d,())).bind fun e=>
(DQ ((e.1.1,(),(),(0:Int),()),e.2.1,([]:List Int),())).bind fun f=>
 some (((),()),f.2.1,())
noncomputable def UM:aH:=aP aj Tryz.f257 i257 SI [] f257
theorem akl:aG U 257 UM:=aS BJ Tryz.func257 (by kernel_rfl) (ba aeu (ba acv ag)) (fun y=>by kernel_rfl) fun a=>by kernel_rfl
structure cf where
 (a b c d e f g h:Int)
def cf.list(s:cf):List Int:=[s.a,s.b,s.c,s.d,s.e,s.f,s.g,s.h]
def Ky(e:Int):Int:=dl .u32 (dl .u32 (kq e 6) (kq e 11)) (kq e 25)
def Kz(a:Int):Int:=dl .u32 (dl .u32 (kq a 2) (kq a 13)) (kq a 22)
def Kx(e f g:Int):Int:=dl .u32 (ew .u32 e f) (ew .u32 (dl .u32 4294967295 e) g)
def JC(a b c:Int):Int:=dl .u32 (dl .u32 (ew .u32 a b) (ew .u32 a c)) (ew .u32 b c)
def BV(s:cf)(k w:Int):Int:=IntKind.u32.wrap (IntKind.u32.wrap (IntKind.u32.wrap (IntKind.u32.wrap (s.h+Ky s.e)+Kx s.e s.f s.g)+k)+w)
def vp(k w:Int)(s:cf):cf:=⟨IntKind.u32.wrap (BV s k w+IntKind.u32.wrap (Kz s.a+JC s.a s.b s.c)),s.a,s.b,s.c,IntKind.u32.wrap (s.d+BV s k w),s.e,s.f,s.g⟩
def l3(h:cf)(w:List Int):Nat->cf
 |0=>h
 |i+1=>vp (gb il i) (gb w i) (l3 h w i)
def Bz(h s:cf):cf:=⟨IntKind.u32.wrap (h.a+s.a),IntKind.u32.wrap (h.b+s.b),IntKind.u32.wrap (h.c+s.c),IntKind.u32.wrap (h.d+s.d),IntKind.u32.wrap (h.e+s.e),IntKind.u32.wrap (h.f+s.f),IntKind.u32.wrap (h.g+s.g),IntKind.u32.wrap (h.h+s.h)⟩
def vH(h:cf)(b:List Int):cf:=Bz h (l3 h (cj b 64) 64)
theorem afD(x y z:Int):IntKind.u32.wrap (IntKind.u32.wrap (x+y)+z)=IntKind.u32.wrap (x+IntKind.u32.wrap (y+z)):=by
 simp only[IntKind.wrap_u32];omega
theorem cf.i0(s:cf):a8 s.list.length 0=some 0:=rfl
theorem cf.i1(s:cf):a8 s.list.length 1=some 1:=rfl
theorem cf.i2(s:cf):a8 s.list.length 2=some 2:=rfl
theorem cf.i4(s:cf):a8 s.list.length 4=some 4:=rfl
theorem cf.i5(s:cf):a8 s.list.length 5=some 5:=rfl
theorem cf.i6(s:cf):a8 s.list.length 6=some 6:=rfl
theorem cf.i7(s:cf):a8 s.list.length 7=some 7:=rfl
theorem cf.g0(s:cf):s.list[0]? =some s.a:=rfl
theorem cf.g1(s:cf):s.list[1]? =some s.b:=rfl
theorem cf.g2(s:cf):s.list[2]? =some s.c:=rfl
theorem cf.g4(s:cf):s.list[4]? =some s.e:=rfl
theorem cf.g5(s:cf):s.list[5]? =some s.f:=rfl
theorem cf.g6(s:cf):s.list[6]? =some s.g:=rfl
theorem cf.g7(s:cf):s.list[7]? =some s.h:=rfl
def gh(s:cf):Nat->List Int
 |0=>s.list
 |1=>[s.a,s.b,s.c,s.d,s.e,s.f,s.g,s.g]
 |2=>[s.a,s.b,s.c,s.d,s.e,s.f,s.f,s.g]
 |3=>[s.a,s.b,s.c,s.d,s.e,s.e,s.f,s.g]
 |4=>[s.a,s.b,s.c,s.d,s.d,s.e,s.f,s.g]
 |5=>[s.a,s.b,s.c,s.c,s.d,s.e,s.f,s.g]
 |6=>[s.a,s.b,s.b,s.c,s.d,s.e,s.f,s.g]
 |_=>[s.a,s.a,s.b,s.c,s.d,s.e,s.f,s.g]
theorem FU:il.length=64:=by decide
theorem abU(h:cf)(b:List Int)(hb:q5 b):f257 ((h.list,(b,())),())=some (((),()),((vH h b).list,())):=by
 have lw:=abS b hb;have t2:=fun x=>mq x 2 (by simp[eH]);have t6:=fun x=>mq x 6 (by simp[eH]);have t11:=fun x=>mq x 11 (by simp[eH])
 have t13:=fun x=>mq x 13 (by simp[eH]);have t22:=fun x=>mq x 22 (by simp[eH]);have t25:=fun x=>mq x 25 (by simp[eH])
 have fX:∀(q:List Int) (i iP iu p3:Int) (w:List Int) (s:cf),C1 ((q,((),((),((),(i,(iP,(iu,(p3,((7:Int),()))))))))),(w,(il,(s.list,()))))=
   some ((q,((),((),((),(i,(iP,(iu,(p3,())))))))),(w,(il,(([s.a,s.a,s.b,s.c,s.d,s.e,s.f,s.g]:List Int),())))):=by
  intro q i iP iu p3 w s;refine fx (g:=L2) (fun j=>((q,((),((),((),(i,(iP,(iu,(p3,(((7-j:Nat):Int),()))))))))),(w,(il,(gh s j,()))))) 7 (fun j hj=>?_) rfl 7 0 rfl
  have:j=0\/j=1\/j=2\/j=3\/j=4\/j=5\/j=6:=by omega
  rcases this with rfl|rfl|rfl|rfl|rfl|rfl|rfl<;>rfl
 have bM:f277 ((),())=some (((),()),(il,())):=rfl;have hc:cy 4 ([]:List Int) h.list=some h.list:=rfl;have aB:EM ((h.list,((),((),((),((0:Int),()))))),(cj b 64,(il,(h.list,()))))=some ((h.list,((),())),((l3 h (cj b 64) 64).list,())):=by
  refine fx (g:=E4) (fun i=>((h.list,((),((),((),((i:Int),()))))),(cj b 64,(il,((l3 h (cj b 64) i).list,()))))) 64 (fun i hi=>?_) rfl 64 0 rfl
  have hl:decide ((i:Int)<64)=true:=by simp;omega
  have i1:a8 il.length (i:Int)=some i:=fq (by rw[FU];exact hi)
  have g1:=lM (b:=il) (j:=i) (by rw[FU];exact hi)
  have i2:a8 (cj b 64).length (i:Int)=some i:=fq (by rw[nr];exact hi)
  have g2:=lM (b:=cj b 64) (j:=i) (by rw[nr];exact hi)
  have hr:l3 h (cj b 64) (i+1)=vp (gb il i) (gb (cj b 64) i) (l3 h (cj b 64) i):=rfl;generalize l3 h (cj b 64) i=s at hr ⊢;simp only[E4,hl,cond_true,cf.i0,cf.i1,cf.i2,cf.i4,cf.i5,cf.i6,cf.i7,cf.g0,cf.g1,cf.g2,cf.g4,cf.g5,cf.g6,cf.g7,i1,g1,i2,g2,Option.bind_some,t2,t6,t11,t13,t22,t25,fX,wp (i:=i) (by omega),hr]
  have e:∀x y:Int,a8 ([s.a,s.a,s.b,s.c,s.d,s.e,s.f,s.g]:List Int).length 4=some 4/\([s.a,s.a,s.b,s.c,s.d,s.e,s.f,s.g]:List Int)[4]? =some s.d/\
   a8 (([s.a,s.a,s.b,s.c,s.d,s.e,s.f,s.g]:List Int).set 4 x).length 0=some 0/\(([s.a,s.a,s.b,s.c,s.d,s.e,s.f,s.g]:List Int).set 4 x)[0]? =some s.a:=fun x y=>⟨rfl,rfl,rfl,rfl⟩
  simp only[(e 0 0).1,(e 0 0).2.1,(e _ 0).2.2.1,(e _ 0).2.2.2,Option.bind_some,vp,BV,Ky,Kz,Kx,JC,afD];rfl
 have aA:DQ ((h.list,((),((),((0:Int),())))),((l3 h (cj b 64) 64).list,(([]:List Int),())))=some (((),()),((vH h b).list,())):=by
  unfold vH;generalize l3 h (cj b 64) 64=s;refine fx (g:=NW) (fun i=>((h.list,((),((),((i:Int),())))),(s.list,((Bz h s).list.take i,())))) 8 (fun i hi=>?_) rfl 8 0 rfl
  have:i=0\/i=1\/i=2\/i=3\/i=4\/i=5\/i=6\/i=7:=by omega
  rcases this with rfl|rfl|rfl|rfl|rfl|rfl|rfl|rfl<;>rfl
 simp only[f257,lw,bM,hc,Option.bind_some,aB,aA]
noncomputable abbrev ans:bi:=[(171,Vk)]
theorem s9:a_ U (bg aj ans):=bf ⟨z171,⟨⟩⟩
abbrev xk:Shape:=⟨[aK 1 .u8,ey 2 2 .u32,ey 4 4 .u32,ey 5 5 .u32,ae 6,ae 27,aK 36 .u8,ae 37,ae 38],[(2,.row .u32,.same),(4,.row .u32,.same),(5,.row .u32,.same)],208⟩
abbrev Dd:List aO:=[(.exit 2,⟨[aK 1 .u8,ey 2 2 .u32,ey 4 4 .u32,ey 5 5 .u32,ae 27],[(2,.row .u32,.same),(4,.row .u32,.same),(5,.row .u32,.same)],208⟩)]
noncomputable def pD(y:xk.J):bR xk Dd:=
 bif(decide (y.1.2.2.2.2.2.2.2.2.1<y.1.2.2.2.2.2.2.2.1)) then
(aU y.1.2.2.2.2.2.2.1 y.1.2.2.2.2.2.2.2.2.1).bind fun a=>
((long 64 y.2.2.2.1).bind fun q=>a8 q.length y.1.2.2.2.2.1).bind fun b=>
(y.2.2.2.1[b]?).bind fun c=>
(lh .u32 c (8:Int)).bind fun d=>
((long 64 y.2.2.2.1).bind fun q=>a8 q.length y.1.2.2.2.2.1).bind fun e=>
((y.2.2.2.1[e]?).bind fun q=>some (hN .u32 d (IntKind.u32.wrap a))).bind fun f=>
 some (.inl ((y.1.1,(),(),(),y.1.2.2.2.2.1,y.1.2.2.2.2.2.1,y.1.2.2.2.2.2.2.1,y.1.2.2.2.2.2.2.2.1,(IntKind.i64.wrap (y.1.2.2.2.2.2.2.2.2.1+(1:Int))),()),y.2.1,y.2.2.1,(y.2.2.2.1.set e f),()))
else
 some (.inr ((y.1.1,(),(),(),y.1.2.2.2.2.2.1,()),y.2.1,y.2.2.1,y.2.2.2.1,()))
noncomputable def Dg:xk.J->Option (aD Dd):=bv pD
theorem aa1:aY U (an (da (an (codeOf Tryz.f121) 1 58)) 116 14950) (a' xk Dd Dg):=bT s9 (by kernel_rfl) ag fun y=>by kernel_rfl
abbrev y6:Shape:=⟨[aK 1 .u8,ey 2 2 .u32,ey 4 4 .u32,ey 5 5 .u32,ae 27],[(2,.row .u32,.same),(4,.row .u32,.same),(5,.row .u32,.same)],208⟩
abbrev FN:List aO:=[(.exit 0,⟨[ey 2 2 .u32,ey 4 4 .u32,ey 5 5 .u32],[(2,.row .u32,.same),(4,.row .u32,.same),(5,.row .u32,.same)],208⟩)]
noncomputable def GL(y:y6.J):bR y6 FN:=
 bif(decide (y.1.2.2.2.2.1<(16:Int))) then
(br y.1.1 (IntKind.i64.wrap ((4:Int)*y.1.2.2.2.2.1)) (IntKind.i64.wrap ((IntKind.i64.wrap ((4:Int)*y.1.2.2.2.2.1))+(4:Int)))).bind fun a=>
(Dg ((y.1.1,(),(),(),y.1.2.2.2.2.1,y.1.2.2.2.2.1,a,(a.length:Int),(0:Int),()),y.2.1,y.2.2.1,y.2.2.2.1,())).bind fun b=>
 some (.inl ((b.1.1,(),(),(),(IntKind.i64.wrap (b.1.2.2.2.2.1+(1:Int))),()),b.2.1,b.2.2.1,b.2.2.2.1,()))
else
 some (.inr (((),(),(),()),y.2.1,y.2.2.1,y.2.2.2.1,()))
noncomputable def Gp:y6.J->Option (aD FN):=bv GL
theorem agG:aY U (an (codeOf Tryz.f121) 1 58) (a' y6 FN Gp):=bT s9 (by kernel_rfl) (ba aa1 ag) fun y=>by kernel_rfl
abbrev yd:Shape:=⟨[ey 2 2 .u32,ey 4 4 .u32,ey 5 5 .u32,ae 9],[(2,.row .u32,.same),(4,.row .u32,.same),(5,.row .u32,.same)],208⟩
abbrev Et:List aO:=[(.exit 4,⟨[ey 2 2 .u32,ey 4 4 .u32,ey 5 5 .u32],[(2,.row .u32,.same),(4,.row .u32,.same),(5,.row .u32,.same)],208⟩)]
noncomputable def E7(y:yd.J):bR yd Et:=
 bif(decide (y.1.2.2.2.1<(64:Int))) then
((long 64 y.2.2.2.1).bind fun q=>a8 q.length (IntKind.i64.wrap (y.1.2.2.2.1-(15:Int)))).bind fun a=>
(y.2.2.2.1[a]?).bind fun b=>
(f171 ((b,(7:Int),()),())).bind fun c=>
((long 64 y.2.2.2.1).bind fun q=>a8 q.length (IntKind.i64.wrap (y.1.2.2.2.1-(15:Int)))).bind fun d=>
(y.2.2.2.1[d]?).bind fun e=>
(f171 ((e,(18:Int),()),())).bind fun f=>
((long 64 y.2.2.2.1).bind fun q=>a8 q.length (IntKind.i64.wrap (y.1.2.2.2.1-(15:Int)))).bind fun g=>
(y.2.2.2.1[g]?).bind fun h=>
(e7 .u32 h (3:Int)).bind fun i=>
((long 64 y.2.2.2.1).bind fun q=>a8 q.length (IntKind.i64.wrap (y.1.2.2.2.1-(2:Int)))).bind fun j=>
(y.2.2.2.1[j]?).bind fun k=>
(f171 ((k,(17:Int),()),())).bind fun l=>
((long 64 y.2.2.2.1).bind fun q=>a8 q.length (IntKind.i64.wrap (y.1.2.2.2.1-(2:Int)))).bind fun m=>
(y.2.2.2.1[m]?).bind fun n=>
(f171 ((n,(19:Int),()),())).bind fun B=>
((long 64 y.2.2.2.1).bind fun q=>a8 q.length (IntKind.i64.wrap (y.1.2.2.2.1-(2:Int)))).bind fun p=>
(y.2.2.2.1[p]?).bind fun r=>
(e7 .u32 r (10:Int)).bind fun s=>
((long 64 y.2.2.2.1).bind fun q=>a8 q.length (IntKind.i64.wrap (y.1.2.2.2.1-(16:Int)))).bind fun t=>
(y.2.2.2.1[t]?).bind fun u=>
((long 64 y.2.2.2.1).bind fun q=>a8 q.length (IntKind.i64.wrap (y.1.2.2.2.1-(7:Int)))).bind fun v=>
(y.2.2.2.1[v]?).bind fun w=>
((long 64 y.2.2.2.1).bind fun q=>a8 q.length y.1.2.2.2.1).bind fun x=>
((y.2.2.2.1[x]?).bind fun q=>some (IntKind.u32.wrap ((IntKind.u32.wrap ((IntKind.u32.wrap (u+(dl .u32 (dl .u32 c.1.1 f.1.1) i)))+w))+(dl .u32 (dl .u32 l.1.1 B.1.1) s)))).bind fun z=>
 some (.inl (((),(),(),(IntKind.i64.wrap (y.1.2.2.2.1+(1:Int))),()),y.2.1,y.2.2.1,(y.2.2.2.1.set x z),()))
else
 some (.inr (((),(),(),()),y.2.1,y.2.2.1,y.2.2.2.1,()))
noncomputable def EU:yd.J->Option (aD Et):=bv E7
theorem aeJ:aY U (an (codeOf Tryz.f121) 1 122) (a' yd Et EU):=bT s9 (by kernel_rfl) ag fun y=>by kernel_rfl
abbrev xK:Shape:=⟨[ey 2 2 .u32,ey 4 4 .u32,ey 5 5 .u32,(12,.ak (.d (.int .u32))),(13,.ak (.d (.int .u32))),(14,.ak (.d (.int .u32))),(15,.ak (.d (.int .u32))),(16,.ak (.d (.int .u32))),(17,.ak (.d (.int .u32))),(18,.ak (.d (.int .u32))),(19,.ak (.d (.int .u32))),ae 122],[(2,.row .u32,.same),(4,.row .u32,.same),(5,.row .u32,.same)],208⟩
abbrev DA:List aO:=[(.exit 6,⟨[ey 2 2 .u32,ey 4 4 .u32,(12,.ak (.d (.int .u32))),(13,.ak (.d (.int .u32))),(14,.ak (.d (.int .u32))),(15,.ak (.d (.int .u32))),(16,.ak (.d (.int .u32))),(17,.ak (.d (.int .u32))),(18,.ak (.d (.int .u32))),(19,.ak (.d (.int .u32)))],[(2,.row .u32,.same),(4,.row .u32,.same)],208⟩)]
noncomputable def xU(y:xK.J):bR xK DA:=
 bif(decide (y.1.2.2.2.2.2.2.2.2.2.2.2.1<(64:Int))) then
(f171 ((y.1.2.2.2.2.2.2.2.1,(6:Int),()),())).bind fun a=>
(f171 ((y.1.2.2.2.2.2.2.2.1,(11:Int),()),())).bind fun b=>
(f171 ((y.1.2.2.2.2.2.2.2.1,(25:Int),()),())).bind fun c=>
(aU il y.1.2.2.2.2.2.2.2.2.2.2.2.1).bind fun d=>
((long 64 y.2.2.2.1).bind fun q=>a8 q.length y.1.2.2.2.2.2.2.2.2.2.2.2.1).bind fun e=>
(y.2.2.2.1[e]?).bind fun f=>
(f171 ((y.1.2.2.2.1,(2:Int),()),())).bind fun g=>
(f171 ((y.1.2.2.2.1,(13:Int),()),())).bind fun h=>
(f171 ((y.1.2.2.2.1,(22:Int),()),())).bind fun i=>
 some (.inl (((),(),(),(IntKind.u32.wrap ((IntKind.u32.wrap ((IntKind.u32.wrap ((IntKind.u32.wrap ((IntKind.u32.wrap (y.1.2.2.2.2.2.2.2.2.2.2.1+(dl .u32 (dl .u32 a.1.1 b.1.1) c.1.1)))+(dl .u32 (ew .u32 y.1.2.2.2.2.2.2.2.1 y.1.2.2.2.2.2.2.2.2.1) (ew .u32 (dl .u32 4294967295 y.1.2.2.2.2.2.2.2.1) y.1.2.2.2.2.2.2.2.2.2.1))))+d))+f))+(IntKind.u32.wrap ((dl .u32 (dl .u32 g.1.1 h.1.1) i.1.1)+(dl .u32 (dl .u32 (ew .u32 y.1.2.2.2.1 y.1.2.2.2.2.1) (ew .u32 y.1.2.2.2.1 y.1.2.2.2.2.2.1)) (ew .u32 y.1.2.2.2.2.1 y.1.2.2.2.2.2.1)))))),y.1.2.2.2.1,y.1.2.2.2.2.1,y.1.2.2.2.2.2.1,(IntKind.u32.wrap (y.1.2.2.2.2.2.2.1+(IntKind.u32.wrap ((IntKind.u32.wrap ((IntKind.u32.wrap ((IntKind.u32.wrap (y.1.2.2.2.2.2.2.2.2.2.2.1+(dl .u32 (dl .u32 a.1.1 b.1.1) c.1.1)))+(dl .u32 (ew .u32 y.1.2.2.2.2.2.2.2.1 y.1.2.2.2.2.2.2.2.2.1) (ew .u32 (dl .u32 4294967295 y.1.2.2.2.2.2.2.2.1) y.1.2.2.2.2.2.2.2.2.2.1))))+d))+f)))),y.1.2.2.2.2.2.2.2.1,y.1.2.2.2.2.2.2.2.2.1,y.1.2.2.2.2.2.2.2.2.2.1,(IntKind.i64.wrap (y.1.2.2.2.2.2.2.2.2.2.2.2.1+(1:Int))),()),y.2.1,y.2.2.1,y.2.2.2.1,()))
else
 some (.inr (((),(),y.1.2.2.2.1,y.1.2.2.2.2.1,y.1.2.2.2.2.2.1,y.1.2.2.2.2.2.2.1,y.1.2.2.2.2.2.2.2.1,y.1.2.2.2.2.2.2.2.2.1,y.1.2.2.2.2.2.2.2.2.2.1,y.1.2.2.2.2.2.2.2.2.2.2.1,()),y.2.1,y.2.2.1,()))
noncomputable def DU:xK.J->Option (aD DA):=bv xU
theorem acL:aY U (an (codeOf Tryz.f121) 1 1018) (a' xK DA DU):=bT s9 (by kernel_rfl) ag fun y=>by kernel_rfl
abbrev xJ:Shape:=⟨[ey 2 2 .u32,ey 4 4 .u32,cC 195 [.d (.int .u32),.d (.int .u32),.d (.int .u32),.d (.int .u32),.d (.int .u32),.d (.int .u32),.d (.int .u32),.d (.int .u32)],ae 196],[(2,.row .u32,.same),(4,.row .u32,.same)],208⟩
abbrev Dz:List aO:=[(.exit 8,⟨[ey 2 2 .u32,ey 4 4 .u32],[(2,.row .u32,.same),(4,.row .u32,.same)],208⟩)]
noncomputable def NX(y:xJ.J):bR xJ Dz:=
 bif(decide (y.1.2.2.2.1<(8:Int))) then
(aU ([y.1.2.2.1.1,y.1.2.2.1.2.1,y.1.2.2.1.2.2.1,y.1.2.2.1.2.2.2.1,y.1.2.2.1.2.2.2.2.1,y.1.2.2.1.2.2.2.2.2.1,y.1.2.2.1.2.2.2.2.2.2.1,y.1.2.2.1.2.2.2.2.2.2.2.1]:List Int) y.1.2.2.2.1).bind fun a=>
((long 8 y.2.1).bind fun q=>a8 q.length y.1.2.2.2.1).bind fun b=>
(y.2.1[b]?).bind fun c=>
((long 8 y.2.1).bind fun q=>a8 q.length y.1.2.2.2.1).bind fun d=>
((y.2.1[d]?).bind fun q=>some (IntKind.u32.wrap (c+a))).bind fun e=>
 some (.inl (((),(),(y.1.2.2.1.1,y.1.2.2.1.2.1,y.1.2.2.1.2.2.1,y.1.2.2.1.2.2.2.1,y.1.2.2.1.2.2.2.2.1,y.1.2.2.1.2.2.2.2.2.1,y.1.2.2.1.2.2.2.2.2.2.1,y.1.2.2.1.2.2.2.2.2.2.2.1,()),(IntKind.i64.wrap (y.1.2.2.2.1+(1:Int))),()),(y.2.1.set d e),y.2.2.1,()))
else
 some (.inr (((),(),()),y.2.1,y.2.2.1,()))
noncomputable def DT:xJ.J->Option (aD Dz):=bv NX
theorem acK:aY U (an (codeOf Tryz.f121) 1 2042) (a' xJ Dz DT):=bT s9 (by kernel_rfl) ag fun y=>by kernel_rfl
abbrev i121:Shape:=⟨[cC 0 [.d (.int .u32),.d (.int .u32),.d (.int .u32),.d (.int .u32),.d (.int .u32),.d (.int .u32),.d (.int .u32),.d (.int .u32)],aK 1 .u8],[],208⟩
abbrev TS:Shape:=⟨[ey 4 4 .u32],[(4,.qo .u32 8,.same)],208⟩
noncomputable def f121(a:i121.J):Option TS.J:=
(Gp ((a.1.2.1,(),(),(),(0:Int),()),([a.1.1.1,a.1.1.2.1,a.1.1.2.2.1,a.1.1.2.2.2.1,a.1.1.2.2.2.2.1,a.1.1.2.2.2.2.2.1,a.1.1.2.2.2.2.2.2.1,a.1.1.2.2.2.2.2.2.2.1]:List Int),(List.replicate 8 (0:Int)),(List.replicate 64 (0:Int)),())).bind fun b=>
(EU (((),(),(),(16:Int),()),b.2.1,b.2.2.1,b.2.2.2.1,())).bind fun c=>
((long 8 c.2.1).bind fun q=>a8 q.length (0:Int)).bind fun d=>
(c.2.1[d]?).bind fun e=>
((long 8 c.2.1).bind fun q=>a8 q.length (1:Int)).bind fun f=>
(c.2.1[f]?).bind fun g=>
((long 8 c.2.1).bind fun q=>a8 q.length (2:Int)).bind fun h=>
(c.2.1[h]?).bind fun i=>
((long 8 c.2.1).bind fun q=>a8 q.length (3:Int)).bind fun j=>
(c.2.1[j]?).bind fun k=>
((long 8 c.2.1).bind fun q=>a8 q.length (4:Int)).bind fun l=>
(c.2.1[l]?).bind fun m=>
((long 8 c.2.1).bind fun q=>a8 q.length (5:Int)).bind fun n=>
(c.2.1[n]?).bind fun B=>
((long 8 c.2.1).bind fun q=>a8 q.length (6:Int)).bind fun p=>
(c.2.1[p]?).bind fun r=>
((long 8 c.2.1).bind fun q=>a8 q.length (7:Int)).bind fun s=>
(c.2.1[s]?).bind fun t=>
(DU (((),(),(),e,g,i,k,m,B,r,t,(0:Int),()),c.2.1,c.2.2.1,c.2.2.2.1,())).bind fun u=>
(DT (((),(),(u.1.2.2.1,u.1.2.2.2.1,u.1.2.2.2.2.1,u.1.2.2.2.2.2.1,u.1.2.2.2.2.2.2.1,u.1.2.2.2.2.2.2.2.1,u.1.2.2.2.2.2.2.2.2.1,u.1.2.2.2.2.2.2.2.2.2.1,()),(0:Int),()),u.2.1,u.2.2.1,())).bind fun v=>
(long 8 v.2.1).bind fun w=>
(long 8 v.2.2.1).bind fun x=>
((long 8 ([(w.getD 0 (0:Int)),(w.getD 1 (0:Int)),(w.getD 2 (0:Int)),(w.getD 3 (0:Int)),(w.getD 4 (0:Int)),(w.getD 5 (0:Int)),(w.getD 6 (0:Int)),(w.getD 7 (0:Int))]:List Int)).bind fun q=>some (q,())).bind fun z=>some (((),()),z)
noncomputable def VO:aH:=aP aj Tryz.f121 i121 TS [] f121
theorem ak2:aG U 121 VO:=aS s9 Tryz.func121 (by kernel_rfl) (ba agG (ba aeJ (ba acL (ba acK ag)))) (fun y=>by kernel_rfl) fun a=>by kernel_rfl
def fW(ws:List Int)(v:Int):List Int:=ws++v::List.replicate (63-ws.length) 0
def j'(ws:List Int):List Int:=ws++List.replicate (64-ws.length) 0
theorem R6{ws:List Int}(h:ws.length<64):j' ws=fW ws 0:=by
 unfold j' fW;rw[show 64-ws.length=(63-ws.length)+1 by omega];rfl
theorem RC{ws:List Int}(h:ws.length<64)(v:Int):fW ws v=j' (ws++[v]):=by
 unfold j' fW;rw[List.length_append,show 64-(ws.length+[v].length)=63-ws.length from by show 64-(ws.length+1)=_;omega,List.append_assoc]
 rfl
theorem Qm{ws:List Int}(h:ws.length<64)(v:Int):(fW ws v).length=64:=by unfold fW;simp;omega
theorem zd{ax:Type}{n:Nat}{xs:List ax}(h:xs.length=n):long n xs=some xs:=by unfold long;rw[if_pos h]
theorem Qn{ws:List Int}(h:ws.length<64)(v:Int){k:Nat}(hk:k<64):((long 64 (fW ws v)).bind fun q=>a8 q.length (k:Int))=some k:=by
 rw[zd (Qm h v)];exact fq (by rw[Qm h];exact hk)
theorem uP(ws:List Int)(v:Int):(fW ws v)[ws.length]? =some v:=by unfold fW;rw[List.getElem?_append_right (Nat.le_refl _)];simp
theorem zS{ws:List Int}{v:Int}{k:Nat}(h:k<ws.length):(fW ws v)[k]? =some (gb ws k):=by
 unfold fW;rw[List.getElem?_append_left h];exact lM h
theorem uO(ws:List Int)(v u:Int):(fW ws v).set ws.length u=fW ws u:=by unfold fW;rw[List.set_append_right _ _ (Nat.le_refl _)];simp
theorem ajk(b:List Int):∀(ws:List Int) (i:Nat) (c0 c1 c2 c3:Int) (r0 r1:List Int),ws.length=i->i<64->
  Dg ((b,((),((),((),((i:Int),((i:Int),(([c0,c1,c2,c3]:List Int),((([c0,c1,c2,c3]:List Int).length:Int),((0:Int),()))))))))),(r0,(r1,(fW ws 0,()))))=
  some ((b,((),((),((),((i:Int),()))))),(r0,(r1,(fW ws (gO (gO (gO (gO 0 c0) c1) c2) c3),())))):=by
 intro ws i c0 c1 c2 c3 r0 r1 hw hi;subst hw;refine fx (g:=pD) (fun j=>((b,((),((),((),((ws.length:Int),((ws.length:Int),(([c0,c1,c2,c3]:List Int),((([c0,c1,c2,c3]:List Int).length:Int),((j:Int),()))))))))),
  (r0,(r1,(fW ws (match j with|0=>0|1=>gO 0 c0|2=>gO (gO 0 c0) c1|3=>gO (gO (gO 0 c0) c1) c2|_=>gO (gO (gO (gO 0 c0) c1) c2) c3),()))))) 4 (fun j hj=>?_) ?_ 4 0 rfl
 ·have hx:∀v:Int,((long 64 (fW ws v)).bind fun q=>a8 q.length (ws.length:Int))=some ws.length:=fun v=>Qn hi v hi
  have:j=0\/j=1\/j=2\/j=3:=by omega
  have n0:IntKind.i64.wrap (((0:Nat):Int)+1)=((0+1:Nat):Int):=rfl;have n1:IntKind.i64.wrap (((1:Nat):Int)+1)=((1+1:Nat):Int):=rfl;have n2:IntKind.i64.wrap (((2:Nat):Int)+1)=((2+1:Nat):Int):=rfl;have iv:IntKind.i64.wrap (((3:Nat):Int)+1)=((3+1:Nat):Int):=rfl;have c:∀k:Nat,k<4->decide (((k:Nat):Int)<(([c0,c1,c2,c3]:List Int).length:Int))=true:=fun k hk=>by simp;omega
  have e3:aU ([c0,c1,c2,c3]:List Int) ((0:Nat):Int)=some c0:=rfl;have dX:aU ([c0,c1,c2,c3]:List Int) ((1:Nat):Int)=some c1:=rfl;have fI:aU ([c0,c1,c2,c3]:List Int) ((2:Nat):Int)=some c2:=rfl;have jl:aU ([c0,c1,c2,c3]:List Int) ((3:Nat):Int)=some c3:=rfl;rcases this with rfl|rfl|rfl|rfl
  ·simp only[pD,c 0 (by omega),cond_true,hx,uP,uO,Option.bind_some,vo,n0,e3];rfl
  ·simp only[pD,c 1 (by omega),cond_true,hx,uP,uO,Option.bind_some,vo,n1,dX];rfl
  ·simp only[pD,c 2 (by omega),cond_true,hx,uP,uO,Option.bind_some,vo,n2,fI];rfl
  ·simp only[pD,c 3 (by omega),cond_true,hx,uP,uO,Option.bind_some,vo,iv,jl];rfl
 ·have:decide (((4:Nat):Int)<(([c0,c1,c2,c3]:List Int).length:Int))=false:=rfl;simp only[pD,this,cond_false]
theorem ajo(b:List Int)(hb:q5 b):∀r0 r1:List Int,Gp ((b,((),((),((),((0:Int),()))))),(r0,(r1,(List.replicate 64 (0:Int),()))))=some (((),((),((),()))),(r0,(r1,(j' (cj b 16),())))):=by
 intro r0 r1;refine fx (g:=GL) (fun i=>((b,((),((),((),((i:Int),()))))),(r0,(r1,(j' (cj b i),()))))) 16 (fun i hi=>?_) rfl 16 0 rfl
 have hl:decide ((i:Int)<16)=true:=by simp;omega
 have hlen:=nr b i;have Z:decide (i<16)=true:=by simpa using hi
 have jm:IntKind.i64.wrap (((4*i:Nat):Int)+4)=((4*i+4:Nat):Int):=by have:=q7 (i:=i) (by omega) 4 (by omega);rwa[tb (by omega)] at this
 have hs:br b ((4*i:Nat):Int) ((4*i+4:Nat):Int)=some [gb b (4*i),gb b (4*i+1),gb b (4*i+2),gb b (4*i+3)]:=by
  rw[pO (by omega) (by rw[hb.1];omega)]
  congr 1
  apply List.ext_getElem?;intro j;rw[List.getElem?_drop,List.getElem?_take];by_cases hj:j<4
  ·rw[if_pos (by omega),lM (by rw[hb.1];omega)]
   have:j=0\/j=1\/j=2\/j=3:=by omega
   rcases this with rfl|rfl|rfl|rfl<;>rfl
  ·rw[if_neg (by omega)]
   rw[List.getElem?_eq_none (by simp;omega)]
 have hw:=afF (hb.pn (j:=4*i) (by omega)) (hb.pn (j:=4*i+1) (by omega)) (hb.pn (j:=4*i+2) (by omega)) (hb.pn (j:=4*i+3) (by omega))
 have Ch:=ajk b (cj b i) i (gb b (4*i)) (gb b (4*i+1)) (gb b (4*i+2)) (gb b (4*i+3)) r0 r1 hlen (by omega)
 rw[hw] at Ch;have hf:=R6 (ws:=cj b i) (by omega)
 have hn:j' (cj b (i+1))=fW (cj b i) (wd (gb b (4*i)) (gb b (4*i+1)) (gb b (4*i+2)) (gb b (4*i+3))):=by rw[RC (by omega)];simp only[cj,Z,cond_true]
 simp only[GL,hl,cond_true,tb (i:=i) (by omega),jm,hs,Option.bind_some,hf,Ch,hn,wp (i:=i) (by omega)]
theorem ajn(b:List Int):∀r0 r1:List Int,EU (((),((),((),((16:Int),())))),(r0,(r1,(j' (cj b 16),()))))=some (((),((),((),()))),(r0,(r1,(j' (cj b 64),())))):=by
 have t2:=fun x=>ht x 2 (by simp[eH]);have t6:=fun x=>ht x 6 (by simp[eH]);have t11:=fun x=>ht x 11 (by simp[eH])
 have t13:=fun x=>ht x 13 (by simp[eH]);have t22:=fun x=>ht x 22 (by simp[eH]);have t25:=fun x=>ht x 25 (by simp[eH])
 have t7:=fun x=>ht x 7 (by simp[eH]);have t18:=fun x=>ht x 18 (by simp[eH]);have t17:=fun x=>ht x 17 (by simp[eH]);have t19:=fun x=>ht x 19 (by simp[eH])
 intro r0 r1;refine fx (g:=E7) (fun i=>(((),((),((),(((16+i:Nat):Int),())))),(r0,(r1,(j' (cj b (16+i)),()))))) 48 (fun i hi=>?_) rfl 48 0 rfl
 have hl:decide (((16+i:Nat):Int)<64)=true:=by simp;omega
 have hlen:=nr b (16+i);have Z:decide (16+i<16)=false:=by simp
 have hf:=R6 (ws:=cj b (16+i)) (by omega)
 have hs:j' (cj b (16+(i+1)))=fW (cj b (16+i)) (vt (cj b (16+i)) (16+i)):=by
  show j' (cj b ((16+i)+1))=_;rw[RC (by omega)];simp only[cj,Z,cond_false]
 have aqU:=pr (i:=16+i) (q:=15) 15 rfl (by omega) (by omega)
 have e2:=pr (i:=16+i) (q:=2) 2 rfl (by omega) (by omega)
 have aqT:=pr (i:=16+i) (q:=16) 16 rfl (by omega) (by omega)
 have w0:=pr (i:=16+i) (q:=7) 7 rfl (by omega) (by omega)
 have hx:∀k:Nat,k<64->((long 64 (fW (cj b (16+i)) 0)).bind fun q=>a8 q.length (k:Int))=some k:=fun k hk=>Qn (by omega) _ hk
 have g15:=zS (ws:=cj b (16+i)) (v:=0) (k:=16+i-15) (by omega)
 have g2:=zS (ws:=cj b (16+i)) (v:=0) (k:=16+i-2) (by omega)
 have g16:=zS (ws:=cj b (16+i)) (v:=0) (k:=16+i-16) (by omega)
 have g7:=zS (ws:=cj b (16+i)) (v:=0) (k:=16+i-7) (by omega)
 have kN:(fW (cj b (16+i)) 0)[16+i]? =some 0:=by have:=uP (cj b (16+i)) 0;rwa[hlen] at this
 have gs:∀u,(fW (cj b (16+i)) 0).set (16+i) u=fW (cj b (16+i)) u:=fun u=>by have:=uO (cj b (16+i)) 0 u;rwa[hlen] at this
 simp only[E7,hl,cond_true,hf,aqU,e2,aqT,w0,hx (16+i-15) (by omega),hx (16+i-2) (by omega),hx (16+i-16) (by omega),hx (16+i-7) (by omega),hx (16+i) (by omega),g15,g2,g16,g7,kN,gs,Option.bind_some,t7,t18,t17,t19,Sr,RG,wp (i:=16+i) (by omega),hs,vt,Jx,Jw]
 rfl
theorem ajm(R:Nat->cf)(W:List Int)(hW:W.length=64)(hR:∀i,R (i+1)=vp (gb il i) (gb W i) (R i))(r0 r1:List Int):DU (((),((),((),((R 0).a,((R 0).b,((R 0).c,((R 0).d,((R 0).e,((R 0).f,((R 0).g,((R 0).h,((0:Int),())))))))))))),(r0,(r1,(W,()))))=
  some (((),((),((R 64).a,((R 64).b,((R 64).c,((R 64).d,((R 64).e,((R 64).f,((R 64).g,((R 64).h,())))))))))),(r0,(r1,()))):=by
 have t2:=fun x=>ht x 2 (by simp[eH]);have t6:=fun x=>ht x 6 (by simp[eH]);have t11:=fun x=>ht x 11 (by simp[eH])
 have t13:=fun x=>ht x 13 (by simp[eH]);have t22:=fun x=>ht x 22 (by simp[eH]);have t25:=fun x=>ht x 25 (by simp[eH])
 have t7:=fun x=>ht x 7 (by simp[eH]);have t18:=fun x=>ht x 18 (by simp[eH]);have t17:=fun x=>ht x 17 (by simp[eH]);have t19:=fun x=>ht x 19 (by simp[eH])
 refine fx (g:=xU) (fun i=>(((),((),((),((R i).a,((R i).b,((R i).c,((R i).d,((R i).e,((R i).f,((R i).g,((R i).h,((i:Int),())))))))))))),(r0,(r1,(W,()))))) 64 (fun i hi=>?_) ?_ 64 0 rfl
 ·have hl:decide ((i:Int)<64)=true:=by simp;omega
  have g1:=vd (b:=il) (j:=i) (by rw[FU];exact hi)
  have hx:((long 64 W).bind fun q=>a8 q.length (i:Int))=some i:=by rw[zd hW];exact fq (by rw[hW];exact hi)
  have g2:=lM (b:=W) (j:=i) (by rw[hW];exact hi)
  rw[hR i];generalize R i=s;simp only[xU,hl,cond_true,g1,hx,g2,Option.bind_some,t2,t6,t11,t13,t22,t25,wp (i:=i) (by omega),vp,BV,Ky,Kz,Kx,JC]
 ·have:decide (((64:Nat):Int)<64)=false:=rfl;simp only[xU,this,cond_false]
theorem ajl(h:cf):∀(s:cf) (r1:List Int),DT (((),((),((s.a,(s.b,(s.c,(s.d,(s.e,(s.f,(s.g,(s.h,())))))))),((0:Int),())))),(h.list,(r1,())))=some (((),((),())),((Bz h s).list,(r1,()))):=by
 intro s r1;refine fx (g:=NX) (fun i=>(((),((),((s.a,(s.b,(s.c,(s.d,(s.e,(s.f,(s.g,(s.h,())))))))),((i:Int),())))),((Bz h s).list.take i++h.list.drop i,(r1,())))) 8 (fun i hi=>?_) rfl 8 0 rfl
 have:i=0\/i=1\/i=2\/i=3\/i=4\/i=5\/i=6\/i=7:=by omega
 rcases this with rfl|rfl|rfl|rfl|rfl|rfl|rfl|rfl<;>(show _=_;kernel_rfl)
theorem aay(h:cf)(b:List Int)(hb:q5 b):f121 (((h.a,(h.b,(h.c,(h.d,(h.e,(h.f,(h.g,(h.h,())))))))),(b,())),())=some (((),()),((vH h b).list,())):=by
 have aB:=ajo b hb;have aA:=ajn b;have pj:j' (cj b 64)=cj b 64:=by unfold j';rw[nr];simp
 have bC:=ajm (l3 h (cj b 64)) (cj b 64) (nr b 64) (fun _=>rfl)
 have e1:(l3 h (cj b 64) 0)=h:=rfl;rw[e1] at bC;have cL:=ajl h;have dY:∀s:cf,s.list.length=8:=fun s=>rfl
 have hx:∀k:Nat,k<8->((long 8 h.list).bind fun q=>a8 q.length (k:Int))=some k:=fun k hk=>by rw[zd (dY h)];exact fq (by rw[dY];exact hk)
 have z0:=hx 0 (by omega);have fH:=hx 1 (by omega);have z2:=hx 2 (by omega);have z3:=hx 3 (by omega)
 have z4:=hx 4 (by omega);have z5:=hx 5 (by omega);have YM:=hx 6 (by omega);have CD:=hx 7 (by omega)
 have eI:([h.a,h.b,h.c,h.d,h.e,h.f,h.g,h.h]:List Int)=h.list:=rfl;have dw:h.list[0]? =some h.a:=rfl;have eD:h.list[1]? =some h.b:=rfl;have fh:h.list[2]? =some h.c:=rfl;have mi:h.list[3]? =some h.d:=rfl;have KW:h.list[4]? =some h.e:=rfl;have wM:h.list[5]? =some h.f:=rfl;have KV:h.list[6]? =some h.g:=rfl;have KU:h.list[7]? =some h.h:=rfl;simp only[Int.cast_ofNat_Int,Int.natCast_zero] at z0 fH z2 z3 z4 z5 YM CD;simp only[f121,eI,aB,aA,pj,Option.bind_some,z0,fH,z2,z3,z4,z5,YM,CD,dw,eD,fh,mi,KW,wM,KV,KU,bC,cL];rw[zd (dY _)];rfl
abbrev yI:Shape:=⟨[ao 0,bc 3 3000192],[bb 3000192 .u8 3 0],33⟩
abbrev Fs:List aO:=[(.exit 0,⟨[ao 0,bc 3 3000192],[bb 3000192 .u8 3 0],33⟩)]
noncomputable def zm(y:yI.J):bR yI Fs:=
(lU (y.2.1.length:Int) (64:Int)).bind fun a=>
 bif(a !=(56:Int)) then
(cy 1 y.2.1 ([(0:Int)]:List Int)).bind fun b=>
 some (.inl ((y.1.1,(),()),b,()))
else
 some (.inr ((y.1.1,(),()),y.2.1,()))
noncomputable def F8:yI.J->Option (aD Fs):=bv zm
theorem af7:aY U (an (codeOf Tryz.f256) 1 28) (a' yI Fs F8):=bT g0 (by kernel_rfl) ag fun y=>by kernel_rfl
abbrev x6:Shape:=⟨[bc 3 3000192,ae 4,ae 5],[bb 3000192 .u8 3 0],33⟩
abbrev El:List aO:=[(.exit 2,⟨[bc 3 3000192],[bb 3000192 .u8 3 0],33⟩)]
noncomputable def E5(y:x6.J):bR x6 El:=
 bif(decide (y.1.2.2.1>=(0:Int))) then
(e7 .i64 y.1.2.1 (IntKind.i64.wrap ((8:Int)*y.1.2.2.1))).bind fun a=>
(cy 1 y.2.1 ([(IntKind.u8.wrap a)]:List Int)).bind fun b=>
 some (.inl (((),y.1.2.1,(IntKind.i64.wrap (y.1.2.2.1-(1:Int))),()),b,()))
else
 some (.inr (((),()),y.2.1,()))
noncomputable def EN:x6.J->Option (aD El):=bv E5
theorem aev:aY U (an (codeOf Tryz.f256) 1 250) (a' x6 El EN):=bT g0 (by kernel_rfl) ag fun y=>by kernel_rfl
abbrev i256:Shape:=⟨[ao 0],[],33⟩
abbrev SJ:Shape:=⟨[bc 2 3000128],[bb 3000128 .u8 2 0],33⟩
noncomputable def f256(a:i256.J):Option SJ.J:=
(if a.1.1.length<=maxLen then some () else none).bind fun b=>
(cy 1 (bytesOf a.1.1) ([(128:Int)]:List Int)).bind fun c=>
(F8 ((a.1.1,(),()),c,())).bind fun d=>
(EN (((),(IntKind.i64.wrap ((d.1.1.length:Int)*(8:Int))),(7:Int),()),d.2.1,())).bind fun e=>
 some (((),()),e.2.1,())
noncomputable def UN:aH:=aP aj Tryz.f256 i256 SJ [] f256
theorem akm:aG U 256 UN:=aS g0 Tryz.func256 (by kernel_rfl) (ba af7 (ba aev ag)) (fun y=>by kernel_rfl) fun a=>by kernel_rfl
noncomputable abbrev amC:bi:=[(256,UN),(257,UM)]
theorem Jb:a_ U (bg aj amC):=bf ⟨akm,akl,⟨⟩⟩
abbrev x8:Shape:=⟨[bc 3 3000192,aK 4 .u8,ae 5],[bb 3000192 .u32 3 0],57⟩
abbrev En:List aO:=[(.exit 0,⟨[bc 3 3000192],[bb 3000192 .u32 3 0],57⟩)]
noncomputable def yq(y:x8.J):bR x8 En:=
 bif(decide (y.1.2.2.1<(y.1.2.1.length:Int))) then
(br y.1.2.1 y.1.2.2.1 (IntKind.i64.wrap (y.1.2.2.1+(64:Int)))).bind fun a=>
(f257 ((y.2.1,a,()),())).bind fun b=>
 some (.inl (((),y.1.2.1,(IntKind.i64.wrap (y.1.2.2.1+(64:Int))),()),b.2.1,()))
else
 some (.inr (((),()),y.2.1,()))
noncomputable def EP:x8.J->Option (aD En):=bv yq
theorem aey:aY U (an (codeOf Tryz.f220) 1 122) (a' x8 En EP):=bT Jb (by kernel_rfl) ag fun y=>by kernel_rfl
abbrev x7:Shape:=⟨[bc 3 3000192,bc 6 3000384,ae 7],[bb 3000192 .u32 3 0,bb 3000384 .u8 6 0],57⟩
abbrev Em:List aO:=[(.exit 2,⟨[bc 6 3000384],[bb 3000384 .u8 6 0],57⟩)]
noncomputable def OY(y:x7.J):bR x7 Em:=
 bif(decide (y.1.2.2.1<(8:Int))) then
(a8 y.2.1.length y.1.2.2.1).bind fun a=>
(y.2.1[a]?).bind fun b=>
(e7 .u32 b (24:Int)).bind fun c=>
(a8 y.2.1.length y.1.2.2.1).bind fun d=>
(y.2.1[d]?).bind fun e=>
(e7 .u32 e (16:Int)).bind fun f=>
(a8 y.2.1.length y.1.2.2.1).bind fun g=>
(y.2.1[g]?).bind fun h=>
(e7 .u32 h (8:Int)).bind fun i=>
(a8 y.2.1.length y.1.2.2.1).bind fun j=>
(y.2.1[j]?).bind fun k=>
(cy 1 y.2.2.1 ([(IntKind.u8.wrap c),(IntKind.u8.wrap f),(IntKind.u8.wrap i),(IntKind.u8.wrap k)]:List Int)).bind fun l=>
 some (.inl (((),(),(IntKind.i64.wrap (y.1.2.2.1+(1:Int))),()),y.2.1,l,()))
else
 some (.inr (((),()),y.2.2.1,()))
noncomputable def EO:x7.J->Option (aD Em):=bv OY
theorem aex:aY U (an (codeOf Tryz.f220) 1 506) (a' x7 Em EO):=bT Jb (by kernel_rfl) ag fun y=>by kernel_rfl
abbrev i220:Shape:=⟨[ao 0],[],57⟩
abbrev SS:Shape:=⟨[ao 2],[],57⟩
noncomputable def f220(a:i220.J):Option SS.J:=
(f256 ((a.1.1,()),())).bind fun b=>
(EP (((),b.2.1,(0:Int),()),([(1779033703:Int),(3144134277:Int),(1013904242:Int),(2773480762:Int),(1359893119:Int),(2600822924:Int),(528734635:Int),(1541459225:Int)]:List Int),())).bind fun c=>
(EO (((),(),(0:Int),()),c.2.1,([]:List Int),())).bind fun d=>
 some (((strOf d.2.1),()),())
noncomputable def UW:aH:=aP aj Tryz.f220 i220 SS [] f220
theorem akr:aG U 220 UW:=aS Jb Tryz.func220 (by kernel_rfl) (ba aey (ba aex ag)) (fun y=>by kernel_rfl) fun a=>by kernel_rfl
def j6(n:Nat):Nat:=(120-n%64)%64
def j0(n:Int):List Int:=[IntKind.u8.wrap (n.fdiv (2^56)),IntKind.u8.wrap (n.fdiv (2^48)),IntKind.u8.wrap (n.fdiv (2^40)),IntKind.u8.wrap (n.fdiv (2^32)),IntKind.u8.wrap (n.fdiv (2^24)),IntKind.u8.wrap (n.fdiv (2^16)),IntKind.u8.wrap (n.fdiv (2^8)),IntKind.u8.wrap (n.fdiv (2^0))]
def ja(s:F):List Int:=(bytesOf s++[128])++List.replicate (j6 (s.length+1)) 0
def ei(s:F):List Int:=ja s++j0 ((s.length:Int)*8)
theorem iT(s:F):(bytesOf s).length=s.length:=by simp[bytesOf]
theorem uN(n:Nat):j6 n<64:=Nat.mod_lt _ (by decide)
theorem Fe(n:Nat):(n+j6 n)%64=56:=by unfold j6;omega
theorem O9(n j:Nat)(h:j<j6 n):(n+j)%64≠56:=by unfold j6 at h;omega
theorem ED(s:F):(ja s).length=s.length+1+j6 (s.length+1):=by simp[ja,iT];omega
theorem yh(s:F):(ei s).length=s.length+1+j6 (s.length+1)+8:=by simp[ei,ED,j0]
theorem ahI(x:Int):kb (IntKind.u8.wrap x):=by rw[IntKind.wrap_u8];constructor<;>omega
theorem OO(s:F):∀x,x∈ei s->kb x:=by
 intro x hx;rcases List.mem_append.1 hx with h|h
 ·rcases List.mem_append.1 h with h|h
  ·rcases List.mem_append.1 h with h|h
   ·obtain⟨b,_,rfl⟩:=List.mem_map.1 h;have:=b.toNat_lt;constructor<;>omega
   ·rw[List.mem_singleton.1 h];decide
  ·rw[(List.mem_replicate.1 h).2];decide
 ·simp only[j0,List.mem_cons,List.not_mem_nil,or_false] at h;rcases h with rfl|rfl|rfl|rfl|rfl|rfl|rfl|rfl<;>exact ahI _
def qA(d:List Int)(k:Nat):List Int:=(d.take (64*k+64)).drop (64*k)
theorem Qh{d:List Int}{k:Nat}(h:64*k+64<=d.length)(hb:∀x,x∈d->kb x):q5 (qA d k):=
 ⟨by unfold qA;simp;omega,fun x hx=>hb x (List.mem_of_mem_take (List.mem_of_mem_drop hx))⟩
def w7:cf:=⟨1779033703,3144134277,1013904242,2773480762,1359893119,2600822924,528734635,1541459225⟩
def tl(d:List Int):Nat->cf
 |0=>w7
 |k+1=>vH (tl d k) (qA d k)
def eA(s:F):cf:=tl (ei s) ((ei s).length/64)
theorem FX(s:F):64*((ei s).length/64)=(ei s).length:=by
 have:=Fe (s.length+1);rw[yh];omega
theorem AU(n:Nat):lU (n:Int) 64=some ((n%64:Nat):Int):=by
 rw[Ha (by omega) (by omega)];simp
theorem O3(n:Nat)(d:List Int):d++List.replicate n 0++[0]=d++List.replicate (n+1) 0:=by
 rw[List.append_assoc,<-List.replicate_succ']
theorem ajh{x:Int}{k:Nat}(h:k<=64):e7 .i64 x (k:Int)=some (x.fdiv (2^k)):=by
 unfold e7;rw[if_neg (by omega),Int.toNat_natCast,show IntKind.i64.bits=64 from rfl,Nat.min_eq_left h]
theorem ahM{x:Int}{k:Nat}(h:k<=64):e7 .u64 x (k:Int)=some (x.fdiv (2^k)):=by
 unfold e7;rw[if_neg (by omega),Int.toNat_natCast,show IntKind.u64.bits=64 from rfl,Nat.min_eq_left h]
theorem NQ(n:Int){i:Nat}(h:i<8):(j0 n).take (i+1)=(j0 n).take i++[IntKind.u8.wrap (n.fdiv (2^(8*(7-i))))]:=by
 have:i=0\/i=1\/i=2\/i=3\/i=4\/i=5\/i=6\/i=7:=by omega
 rcases this with rfl|rfl|rfl|rfl|rfl|rfl|rfl|rfl<;>rfl
abbrev pw(s:F):Prop:=s.length<=1073741824
theorem aaC(s:F)(h:pw s):f256 ((s,()),())=some (((),()),(ei s,())):=by
 have hm:(if s.length<=maxLen then some () else none)=some ():=if_pos (by unfold maxLen;omega)
 have ha:cy 1 (bytesOf s) ([128]:List Int)=some (bytesOf s++[128]):=d' (by decide) (by unfold ap;rw[iT];simp;omega)
 have aB:F8 ((s,((),())),(bytesOf s++[128],()))=some ((s,((),())),(ja s,())):=by
  have hz:=uN (s.length+1);have qP:∀i:Nat,(bytesOf s++[128]++List.replicate i (0:Int)).length=s.length+1+i:=fun i=>by simp[iT];omega
  have:=fx (g:=zm) (fun i=>((s,((),())),(bytesOf s++[128]++List.replicate i (0:Int),()))) (j6 (s.length+1)) (b:=((s,((),())),(ja s,()))) (fun i hi=>?_) ?_ (j6 (s.length+1)) 0 (by omega)
  ·rw[List.replicate_zero,List.append_nil] at this;exact this
  ·have hne:((((s.length+1+i)%64:Nat):Int) !=56)=true:=by have:=O9 (s.length+1) i hi;rw[bne_iff_ne];omega
   simp only[zm,qP,AU,Option.bind_some,hne,cond_true];rw[d' (by decide) (by unfold ap;rw[qP];simp;omega)]
   simp only[Option.bind_some,O3]
  ·have hne:((((s.length+1+j6 (s.length+1))%64:Nat):Int) !=56)=false:=by have:=Fe (s.length+1);rw[this];rfl
   simp only[zm,qP,AU,Option.bind_some,hne,cond_false];rfl
 have aA:∀n:Int,EN (((),(n,((7:Int),()))),(ja s,()))=some (((),()),(ja s++j0 n,())):=by
  intro n;have:=fx (g:=E5) (fun i=>(((),(n,((7-(i:Int)),()))),(ja s++(j0 n).take i,()))) 8 (b:=(((),()),(ja s++j0 n,()))) (fun i hi=>?_) rfl 8 0 rfl
  ·rw[show(7:Int)-((0:Nat):Int)=7 from rfl,List.take_zero,List.append_nil] at this;exact this
  ·have hl:decide ((7-(i:Int))>=0)=true:=by simp;omega
   have hw:IntKind.i64.wrap (8*(7-(i:Int)))=((8*(7-i):Nat):Int):=by rw[eg (by omega) (by omega)];omega
   have hs:IntKind.i64.wrap (7-(i:Int)-1)=7-((i+1:Nat):Int):=by rw[eg (by omega) (by omega)];omega
   simp only[E5,hl,cond_true,hw,ajh (x:=n) (k:=8*(7-i)) (by omega),Option.bind_some,hs]
   rw[d' (by decide) (by unfold ap;simp[ED,j0];have:=uN (s.length+1);omega)]
   simp only[Option.bind_some,List.append_assoc,NQ n hi]
 have hn:IntKind.i64.wrap ((s.length:Int)*8)=(s.length:Int)*8:=eg (by omega) (by omega)
 simp only[f256,hm,ha,Option.bind_some,aB,hn,aA];rfl
theorem afJ(s:F)(h:pw s):f220 ((s,()),())=some ((strOf ((eA s).list.flatMap fun w=>[IntKind.u8.wrap (w.fdiv (2^24)),IntKind.u8.wrap (w.fdiv (2^16)),IntKind.u8.wrap (w.fdiv (2^8)),IntKind.u8.wrap w]),()),()):=by
 have dY:=FX s;have hlen:=yh s;have hz:=uN (s.length+1);have jI:=OO s;have aB:EP (((),(ei s,((0:Int),()))),(w7.list,()))=some (((),()),((eA s).list,())):=by
  refine fx (g:=yq) (fun k=>(((),(ei s,(((64*k:Nat):Int),()))),((tl (ei s) k).list,()))) ((ei s).length/64) (fun k hk=>?_) ?_ ((ei s).length/64) 0 (by omega)
  ·have hk2:64*k+64<=(ei s).length:=by omega
   have hl:decide (((64*k:Nat):Int)<((ei s).length:Int))=true:=by simp;omega
   have hw:IntKind.i64.wrap (((64*k:Nat):Int)+64)=((64*k+64:Nat):Int):=by rw[eg (by omega) (by omega)];omega
   have hs:br (ei s) ((64*k:Nat):Int) ((64*k+64:Nat):Int)=some (qA (ei s) k):=pO (by omega) hk2
   have hb:=abU (tl (ei s) k) (qA (ei s) k) (Qh hk2 jI);simp only[yq,hl,cond_true,hw,hs,Option.bind_some,hb];rfl
  ·have hl:decide (((64*((ei s).length/64):Nat):Int)<((ei s).length:Int))=false:=by simp;omega
   simp only[yq,hl,cond_false];rfl
 have aA:∀q:cf,EO (((),((),((0:Int),()))),(q.list,(([]:List Int),())))=some (((),()),((q.list.flatMap fun w=>[IntKind.u8.wrap (w.fdiv (2^24)),IntKind.u8.wrap (w.fdiv (2^16)),IntKind.u8.wrap (w.fdiv (2^8)),IntKind.u8.wrap w]),())):=by
  intro q;refine fx (g:=OY) (fun i=>(((),((),((i:Int),()))),(q.list,((q.list.take i).flatMap fun w=>[IntKind.u8.wrap (w.fdiv (2^24)),IntKind.u8.wrap (w.fdiv (2^16)),IntKind.u8.wrap (w.fdiv (2^8)),IntKind.u8.wrap w],())))) 8 (fun i hi=>?_) rfl 8 0 rfl
  have:i=0\/i=1\/i=2\/i=3\/i=4\/i=5\/i=6\/i=7:=by omega
  rcases this with rfl|rfl|rfl|rfl|rfl|rfl|rfl|rfl<;>(show _=_;kernel_rfl)
 have lw:=aaC s h;have eI:([1779033703,3144134277,1013904242,2773480762,1359893119,2600822924,528734635,1541459225]:List Int)=w7.list:=rfl;simp only[f220,lw,Option.bind_some,eI,aB,aA]
abbrev Q_:Shape:=⟨[aM 0 500000 0,(1,.ak (.d (.int .u8)))],[bx 37000001 .u8 500000 1,aL 500000 [.dn,.own 37000001]],17⟩
abbrev QV:Shape:=⟨[aM 0 500000 0,(4,.ak (.Bn))],[bx 37000001 .u8 500000 1,aL 500000 [.dn,.own 37000001]],17⟩
noncomputable def HI(a:Q_.J):Option QV.J:=
(cy 1 a.2.1 ([a.1.2.1]:List Int)).bind fun b=>
 some (((),(),()),b,((),(),()),())
noncomputable def Rt:aH:=aP aj Tryz.f122 Q_ QV [0] HI
theorem ahA:aG U 122 Rt:=aS g0 Tryz.func122 (by kernel_rfl) ag (fun y=>by kernel_rfl) fun a=>by kernel_rfl
abbrev x9:Shape:=⟨[ao 0,ao 3,bc 4 3000256,ae 5],[bb 3000256 .u8 4 0],30⟩
abbrev Eo:List aO:=[(.exit 0,⟨[bc 4 3000256],[bb 3000256 .u8 4 0],30⟩)]
noncomputable def yr(y:x9.J):bR x9 Eo:=
 bif(decide (y.1.2.2.2.1<(y.1.1.length:Int))) then
(aU y.1.1 y.1.2.2.2.1).bind fun a=>
(nO .u8 (a.toNat:Int) (16:Int)).bind fun b=>
(aU y.1.2.1 b).bind fun c=>
(aU y.1.1 y.1.2.2.2.1).bind fun d=>
(lU (d.toNat:Int) (16:Int)).bind fun e=>
(aU y.1.2.1 e).bind fun f=>
(cy 1 y.2.1 ([(c.toNat:Int),(f.toNat:Int)]:List Int)).bind fun g=>
 some (.inl ((y.1.1,y.1.2.1,(),(IntKind.i64.wrap (y.1.2.2.2.1+(1:Int))),()),g,()))
else
 some (.inr (((),()),y.2.1,()))
noncomputable def EQ:x9.J->Option (aD Eo):=bv yr
theorem aez:aY U (an (codeOf Tryz.f219) 1 122) (a' x9 Eo EQ):=bT g0 (by kernel_rfl) ag fun y=>by kernel_rfl
abbrev i219:Shape:=⟨[ao 0],[],30⟩
abbrev SU:Shape:=⟨[ao 2],[],30⟩
noncomputable def f219(a:i219.J):Option SU.J:=
(EQ ((a.1.1,([48,49,50,51,52,53,54,55,56,57,97,98,99,100,101,102]:F),(),(0:Int),()),([]:List Int),())).bind fun b=>
 some (((strOf b.2.1),()),())
noncomputable def UX:aH:=aP aj Tryz.f219 i219 SU [] f219
theorem aks:aG U 219 UX:=aS g0 Tryz.func219 (by kernel_rfl) (ba aez ag) (fun y=>by kernel_rfl) fun a=>by kernel_rfl
noncomputable abbrev amW:bi:=[(219,UX),(220,UW)]
theorem anV:a_ U (bg aj amW):=bf ⟨aks,akr,⟨⟩⟩
abbrev i173:Shape:=⟨[ao 0],[],7⟩
abbrev Tl:Shape:=⟨[ao 2],[],7⟩
noncomputable def f173(a:i173.J):Option Tl.J:=
(f220 ((a.1.1,()),())).bind fun b=>
(f219 ((b.1.1,()),())).bind fun c=>
(br c.1.1 (0:Int) (16:Int)).bind fun d=>
 some ((d,()),())
noncomputable def Vi:aH:=aP aj Tryz.f173 i173 Tl [] f173
theorem z173:aG U 173 Vi:=aS anV Tryz.func173 (by kernel_rfl) ag (fun y=>by kernel_rfl) fun a=>by kernel_rfl
noncomputable abbrev arA:bi:=[(121,VO),(122,Rt)]
theorem tI:a_ U (bg aj arA):=bf ⟨ak2,ahA,⟨⟩⟩
abbrev Ad:Shape:=⟨[ao 0,ey 3 3 .u32,bc 4 3000256],[(3,.row .u32,.same),bb 3000256 .u8 4 0],70⟩
abbrev G5:List aO:=[(.exit 0,⟨[ao 0,ey 3 3 .u32,bc 4 3000256],[(3,.row .u32,.same),bb 3000256 .u8 4 0],70⟩)]
noncomputable def AB(y:Ad.J):bR Ad G5:=
(lU (y.2.2.1.length:Int) (64:Int)).bind fun a=>
 bif(a !=(56:Int)) then
(cy 1 y.2.2.1 ([(0:Int)]:List Int)).bind fun b=>
 some (.inl ((y.1.1,(),(),()),y.2.1,b,()))
else
 some (.inr ((y.1.1,(),(),()),y.2.1,y.2.2.1,()))
noncomputable def Hp:Ad.J->Option (aD G5):=bv AB
theorem ah7:aY U (an (codeOf Tryz.f69) 1 60) (a' Ad G5 Hp):=bT tI (by kernel_rfl) ag fun y=>by kernel_rfl
abbrev yB:Shape:=⟨[ey 3 3 .u32,bc 4 3000256,(5,.ak (.d (.int .u64))),ae 6],[(3,.row .u32,.same),bb 3000256 .u8 4 0],70⟩
abbrev Fj:List aO:=[(.exit 2,⟨[ey 3 3 .u32,bc 4 3000256],[(3,.row .u32,.same),bb 3000256 .u8 4 0],70⟩)]
noncomputable def GA(y:yB.J):bR yB Fj:=
 bif(decide (y.1.2.2.2.1>=(0:Int))) then
(e7 .u64 y.1.2.2.1 y.1.2.2.2.1).bind fun a=>
(cy 1 y.2.2.1 ([(IntKind.u8.wrap a)]:List Int)).bind fun b=>
 some (.inl (((),(),y.1.2.2.1,(IntKind.i64.wrap (y.1.2.2.2.1-(8:Int))),()),y.2.1,b,()))
else
 some (.inr (((),(),()),y.2.1,y.2.2.1,()))
noncomputable def F1:yB.J->Option (aD Fj):=bv GA
theorem afY:aY U (an (codeOf Tryz.f69) 1 506) (a' yB Fj F1):=bT tI (by kernel_rfl) ag fun y=>by kernel_rfl
abbrev x2:Shape:=⟨[ey 3 3 .u32,aK 4 .u8,ae 7],[(3,.row .u32,.same)],70⟩
abbrev Eh:List aO:=[(.exit 4,⟨[ey 3 3 .u32],[(3,.row .u32,.same)],70⟩)]
noncomputable def yo(y:x2.J):bR x2 Eh:=
 bif(decide (y.1.2.2.1<(y.1.2.1.length:Int))) then
(long 8 y.2.1).bind fun a=>
(br y.1.2.1 y.1.2.2.1 (IntKind.i64.wrap (y.1.2.2.1+(64:Int)))).bind fun b=>
(f121 ((((a.getD 0 (0:Int)),(a.getD 1 (0:Int)),(a.getD 2 (0:Int)),(a.getD 3 (0:Int)),(a.getD 4 (0:Int)),(a.getD 5 (0:Int)),(a.getD 6 (0:Int)),(a.getD 7 (0:Int)),()),b,()),())).bind fun c=>
(long 8 y.2.1).bind fun d=>
 some (.inl (((),y.1.2.1,(IntKind.i64.wrap (y.1.2.2.1+(64:Int))),()),([((pad (t:=.u32) 8 c.2.1).getD 0 (0:Int)),((pad (t:=.u32) 8 c.2.1).getD 1 (0:Int)),((pad (t:=.u32) 8 c.2.1).getD 2 (0:Int)),((pad (t:=.u32) 8 c.2.1).getD 3 (0:Int)),((pad (t:=.u32) 8 c.2.1).getD 4 (0:Int)),((pad (t:=.u32) 8 c.2.1).getD 5 (0:Int)),((pad (t:=.u32) 8 c.2.1).getD 6 (0:Int)),((pad (t:=.u32) 8 c.2.1).getD 7 (0:Int))]:List Int),()))
else
 some (.inr (((),()),y.2.1,()))
noncomputable def EJ:x2.J->Option (aD Eh):=bv yo
theorem aep:aY U (an (codeOf Tryz.f69) 1 1018) (a' x2 Eh EJ):=bT tI (by kernel_rfl) ag fun y=>by kernel_rfl
abbrev xc:Shape:=⟨[aM 8 8 0,(10,.ak (.d (.int .u32))),ae 11,aK 52 .u32,ae 53,ae 54],[bx 5000513 .u8 8 1,aL 8 [.dn,.own 5000513]],70⟩
abbrev C4:List aO:=[(.exit 8,⟨[aM 8 8 0,aK 52 .u32,ae 53,ae 54],[bx 5000513 .u8 8 1,aL 8 [.dn,.own 5000513]],70⟩)]
noncomputable def C_(y:xc.J):bR xc C4:=
 bif(decide (y.1.2.2.1>=(0:Int))) then
(e7 .u32 y.1.2.1 y.1.2.2.1).bind fun a=>
(aU ([48,49,50,51,52,53,54,55,56,57,97,98,99,100,101,102]:F) (ew .u32 a (15:Int))).bind fun b=>
(HI (((),(b.toNat:Int),()),y.2.1,((),(),()),())).bind fun c=>
 some (.inl (((),y.1.2.1,(IntKind.i64.wrap (y.1.2.2.1-(4:Int))),y.1.2.2.2.1,y.1.2.2.2.2.1,y.1.2.2.2.2.2.1,()),c.2.1,((),(),()),()))
else
 some (.inr (((),y.1.2.2.2.1,y.1.2.2.2.2.1,y.1.2.2.2.2.2.1,()),y.2.1,((),(),()),()))
noncomputable def C8:xc.J->Option (aD C4):=bv C_
theorem _Z:aY U (an (da (an (codeOf Tryz.f69) 1 4090)) 8180 1047142) (a' xc C4 C8):=bT tI (by kernel_rfl) ag fun y=>by kernel_rfl
abbrev x1:Shape:=⟨[aM 8 8 0,aK 52 .u32,ae 53,ae 54],[bx 5000513 .u8 8 1,aL 8 [.dn,.own 5000513]],70⟩
abbrev Eg:List aO:=[(.exit 6,⟨[aM 8 8 0],[bx 5000513 .u8 8 1,aL 8 [.dn,.own 5000513]],70⟩)]
noncomputable def pQ(y:x1.J):bR x1 Eg:=
 bif(decide (y.1.2.2.2.1<y.1.2.2.1)) then
(aU y.1.2.1 y.1.2.2.2.1).bind fun a=>
(C8 (((),a,(28:Int),y.1.2.1,y.1.2.2.1,y.1.2.2.2.1,()),y.2.1,((),(),()),())).bind fun b=>
 some (.inl (((),b.1.2.1,b.1.2.2.1,(IntKind.i64.wrap (b.1.2.2.2.1+(1:Int))),()),b.2.1,((),(),()),()))
else
 some (.inr (((),()),y.2.1,((),(),()),()))
noncomputable def EI:x1.J->Option (aD Eg):=bv pQ
theorem aeo:aY U (an (codeOf Tryz.f69) 1 4090) (a' x1 Eg EI):=bT tI (by kernel_rfl) (ba _Z ag) fun y=>by kernel_rfl
abbrev i69:Shape:=⟨[ao 0],[],70⟩
abbrev WQ:Shape:=⟨[ao 2],[],70⟩
noncomputable def f69(a:i69.J):Option WQ.J:=
(long 8 (List.replicate 8 (0:Int))).bind fun b=>
(if a.1.1.length<=maxLen then some () else none).bind fun c=>
(cy 1 (bytesOf a.1.1) ([(128:Int)]:List Int)).bind fun d=>
(Hp ((a.1.1,(),(),()),([(1779033703:Int),(3144134277:Int),(1013904242:Int),(2773480762:Int),(1359893119:Int),(2600822924:Int),(528734635:Int),(1541459225:Int)]:List Int),d,())).bind fun e=>
(F1 (((),(),(IntKind.u64.wrap ((IntKind.u64.wrap (e.1.1.length:Int))*(8:Int))),(56:Int),()),e.2.1,e.2.2.1,())).bind fun f=>
(EJ (((),f.2.2.1,(0:Int),()),f.2.1,())).bind fun g=>
((long 8 g.2.1).bind fun q=>br q (0:Int) (2:Int)).bind fun h=>
(EI (((),h,(h.length:Int),(0:Int),()),([]:List Int),((),(),()),())).bind fun i=>
 some (((strOf i.2.1),()),())
noncomputable def X_:aH:=aP aj Tryz.f69 i69 WQ [] f69
theorem aok:aG U 69 X_:=aS tI Tryz.func69 (by kernel_rfl) (ba ah7 (ba afY (ba aep (ba aeo ag)))) (fun y=>by kernel_rfl) fun a=>by kernel_rfl
def s5:F:=[48,49,50,51,52,53,54,55,56,57,97,98,99,100,101,102]
def jb(k:Nat):UInt8:=s5.getD k 48
theorem Hu{k:Nat}(h:k<16):aU s5 (k:Int)=some (jb k):=by
 rw[bX];unfold jb;rw[List.getD_eq_getElem?_getD,List.getElem?_eq_getElem (by exact h)];rfl
def h5(b:UInt8):F:=[jb (b.toNat/16),jb (b.toNat%16)]
def fE(w:Int):F:=[jb (w.toNat/268435456%16),jb (w.toNat/16777216%16),jb (w.toNat/1048576%16),jb (w.toNat/65536%16),jb (w.toNat/4096%16),jb (w.toNat/256%16),jb (w.toNat/16%16),jb (w.toNat%16)]
def oW(s:F):F:=fE (eA s).a++fE (eA s).b
theorem tX(s:F):strOf (bytesOf s)=s:=by
 unfold strOf bytesOf;rw[List.map_map];refine List.map_id'' (fun b=>?_) s
 simp
theorem oo(s t:F):bytesOf (s++t)=bytesOf s++bytesOf t:=by unfold bytesOf;rw[List.map_append]
theorem _H(s:F)(h:pw s):f219 ((s,()),())=some ((s.flatMap h5,()),()):=by
 have aB:EQ ((s,(s5,((),((0:Int),())))),(([]:List Int),()))=some (((),()),(bytesOf (s.flatMap h5),())):=by
  have hlen:∀t:F,(t.flatMap h5).length=2*t.length:=by
   intro t;induction t with
   |nil=>rfl
   |cons b r ih=>rw[List.flatMap_cons,List.length_append,ih];simp[h5];omega
  refine fx (g:=yr) (fun i=>((s,(s5,((),((i:Int),())))),(bytesOf ((s.take i).flatMap h5),()))) s.length (fun i hi=>?_) ?_ s.length 0 (by omega)
  ·obtain⟨b,hb⟩:∃b,s[i]? =some b:=⟨s[i],List.getElem?_eq_getElem hi⟩;have ar:nO .u8 (b.toNat:Int) 16=some ((b.toNat/16:Nat):Int):=by
    have:=b.toNat_lt;unfold nO;rw[if_neg (by decide),Int.tdiv_eq_ediv_of_nonneg (by omega),IntKind.wrap_u8]
    congr 1;omega
   have hr:lU (b.toNat:Int) 16=some ((b.toNat%16:Nat):Int):=by rw[Ha (by omega) (by omega)];simp
   have:=b.toNat_lt;have e1:=Hu (k:=b.toNat/16) (by omega)
   have e2:=Hu (k:=b.toNat%16) (by omega)
   have aq:s.take (i+1)=s.take i++[b]:=by rw[List.take_add_one,hb];rfl
   simp only[yr,b8 hi,cond_true,bX,hb,Option.bind_some,ar,hr,aq];simp only[<-bX,e1,e2,Option.bind_some];rw[d' (by decide) (by unfold ap;rw[iT,hlen];simp;omega),bS (by unfold ap;omega)]
   simp only[Option.bind_some,List.flatMap_append,oo];rfl
  ·simp only[yr,dh,cond_false,List.take_length]
 have eI:([48,49,50,51,52,53,54,55,56,57,97,98,99,100,101,102]:F)=s5:=rfl;simp only[f219,eI,aB,Option.bind_some,tX]
abbrev q4(w:Int):Prop:=0<=w/\w<4294967296
theorem P_{w:Int}(h:q4 w):h5 (UInt8.ofNat (IntKind.u8.wrap (w.fdiv (2^24))).toNat)++(h5 (UInt8.ofNat (IntKind.u8.wrap (w.fdiv (2^16))).toNat)++(h5 (UInt8.ofNat (IntKind.u8.wrap (w.fdiv (2^8))).toNat)++h5 (UInt8.ofNat (IntKind.u8.wrap w).toNat)))=fE w:=by
 obtain⟨n,rfl⟩:=Int.eq_ofNat_of_zero_le h.1;have hn:n<4294967296:=by have:=h.2;omega
 have e:∀m:Nat,(UInt8.ofNat (IntKind.u8.wrap (m:Int)).toNat).toNat=m%256:=fun m=>by
  rw[IntKind.wrap_u8,show((m:Int)%256).toNat=m%256 by omega];simp
 have f:∀k:Nat,((n:Int).fdiv (2^k))=((n/2^k:Nat):Int):=fun k=>by
  rw[Int.fdiv_eq_ediv_of_nonneg _ (by exact Int.le_of_lt (Int.pow_pos (by decide)))]
  simp
 rw[f,f,f];simp only[h5,fE,e,List.cons_append,List.nil_append,Int.toNat_natCast];rw[show n/2^24%256/16=n/268435456%16 by omega,show n/2^24%256%16=n/16777216%16 by omega,show n/2^16%256/16=n/1048576%16 by omega,show n/2^16%256%16=n/65536%16 by omega,
  show n/2^8%256/16=n/4096%16 by omega,show n/2^8%256%16=n/256%16 by omega,show n%256/16=n/16%16 by omega,show n%256%16=n%16 by omega]
theorem RD(x:Int):q4 (IntKind.u32.wrap x):=by rw[IntKind.wrap_u32];constructor<;>omega
theorem Ut(s:F):q4 (eA s).a/\q4 (eA s).b:=by
 have h1:=FX s;have h2:=yh s;unfold eA;generalize hk:(ei s).length/64=k at h1;cases k with
 |zero=>omega
 |succ k=>exact⟨RD _,RD _⟩
theorem OT(w:Int):(fE w).length=8:=rfl
theorem Ew(s:F):(oW s).length=16:=rfl
theorem aje(s:F)(h:pw s):f173 ((s,()),())=some ((oW s,()),()):=by
 have aB:=afJ s h;have hw:=Ut s;have aA:=_H (strOf ((eA s).list.flatMap fun w=>[IntKind.u8.wrap (w.fdiv (2^24)),IntKind.u8.wrap (w.fdiv (2^16)),IntKind.u8.wrap (w.fdiv (2^8)),IntKind.u8.wrap w])) (by unfold pw;simp[strOf,cf.list])
 have aq:∀q:cf,br ((strOf (q.list.flatMap fun w=>[IntKind.u8.wrap (w.fdiv (2^24)),IntKind.u8.wrap (w.fdiv (2^16)),IntKind.u8.wrap (w.fdiv (2^8)),IntKind.u8.wrap w])).flatMap h5) 0 16=
   some ((h5 (UInt8.ofNat (IntKind.u8.wrap (q.a.fdiv (2^24))).toNat)++(h5 (UInt8.ofNat (IntKind.u8.wrap (q.a.fdiv (2^16))).toNat)++(h5 (UInt8.ofNat (IntKind.u8.wrap (q.a.fdiv (2^8))).toNat)++h5 (UInt8.ofNat (IntKind.u8.wrap q.a).toNat))))++
    (h5 (UInt8.ofNat (IntKind.u8.wrap (q.b.fdiv (2^24))).toNat)++(h5 (UInt8.ofNat (IntKind.u8.wrap (q.b.fdiv (2^16))).toNat)++(h5 (UInt8.ofNat (IntKind.u8.wrap (q.b.fdiv (2^8))).toNat)++h5 (UInt8.ofNat (IntKind.u8.wrap q.b).toNat))))):=fun q=>rfl
 simp only[f173,aB,aA,Option.bind_some,aq,P_ hw.1,P_ hw.2];rfl
theorem aj5{m:Nat}(h:m<4294967296):ew .u32 (m:Int) 15=((m%16:Nat):Int):=by
 unfold ew;rw[BitVec.toNat_and,DK h,show(BitVec.ofInt IntKind.u32.bits 15).toNat=15 from rfl,show(15:Nat)=2^4-1 from rfl,Nat.and_two_pow_sub_one_eq_mod,ou (by omega) (by omega)]
theorem ae8(w:Int){i:Nat}(h:i<8):(fE w)[i]? =some (jb (w.toNat/2^(28-4*i)%16)):=by
 have:i=0\/i=1\/i=2\/i=3\/i=4\/i=5\/i=6\/i=7:=by omega
 rcases this with rfl|rfl|rfl|rfl|rfl|rfl|rfl|rfl<;>simp[fE]
theorem OS(w:Int)(hw:q4 w)(r0:List Int)(hr:r0.length<=100)(p q u):C8 (((),(w,((28:Int),(p,(q,(u,())))))),(r0,(((),((),())),())))=some (((),(p,(q,(u,())))),(r0++bytesOf (fE w),(((),((),())),()))):=by
 have:=fx (g:=C_) (fun i=>(((),(w,((28-4*(i:Int)),(p,(q,(u,())))))),(r0++bytesOf ((fE w).take i),(((),((),())),())))) 8 (b:=(((),(p,(q,(u,())))),(r0++bytesOf (fE w),(((),((),())),())))) (fun i hi=>?_) rfl 8 0 rfl
 ·rw[show(28:Int)-4*((0:Nat):Int)=28 from rfl,List.take_zero] at this
  have e:r0++bytesOf []=r0:=List.append_nil r0;rw[e] at this;exact this
 ·obtain⟨n,rfl⟩:=Int.eq_ofNat_of_zero_le hw.1;have hn:n<4294967296:=by have:=hw.2;omega
  have hl:decide ((28-4*(i:Int))>=0)=true:=by simp;omega
  have hs:e7 .u32 (n:Int) (28-4*(i:Int))=some ((n/2^(28-4*i):Nat):Int):=by
   rw[show(28-4*(i:Int))=((28-4*i:Nat):Int) by omega]
   unfold e7;rw[if_neg (by omega),Int.toNat_natCast,show IntKind.u32.bits=32 from rfl,Nat.min_eq_left (by omega),Int.fdiv_eq_ediv_of_nonneg _ (by exact Int.le_of_lt (Int.pow_pos (by decide)))]
   simp
  have hlt:n/2^(28-4*i)<4294967296:=Nat.lt_of_le_of_lt (Nat.div_le_self _ _) hn;have ha:=aj5 hlt;have hx:=Hu (k:=n/2^(28-4*i)%16) (Nat.mod_lt _ (by decide))
  have Z:IntKind.i64.wrap (28-4*(i:Int)-4)=28-4*((i+1:Nat):Int):=by rw[eg (by omega) (by omega)];omega
  have aq:(fE (n:Int)).take (i+1)=(fE (n:Int)).take i++[jb (n/2^(28-4*i)%16)]:=by
   rw[List.take_add_one,ae8 _ hi,Int.toNat_natCast];rfl
  have eI:([48,49,50,51,52,53,54,55,56,57,97,98,99,100,101,102]:F)=s5:=rfl;simp only[C_,hl,cond_true,hs,Option.bind_some,ha,eI,hx,HI,Z,aq,oo];rw[d' (by decide) (by unfold ap;simp[iT,OT];omega)]
  simp only[Option.bind_some,List.append_assoc];rfl
theorem ahH(s:F)(h:pw s):f69 ((s,()),())=some ((oW s,()),()):=by
 have dY:=FX s;have hlen:=yh s;have hz:=uN (s.length+1);have jI:=OO s;have hm:(if s.length<=maxLen then some () else none)=some ():=if_pos (by unfold maxLen;omega)
 have ha:cy 1 (bytesOf s) ([128]:List Int)=some (bytesOf s++[128]):=d' (by decide) (by unfold ap;rw[iT];simp;omega)
 have h8:long 8 (List.replicate 8 (0:Int))=some (List.replicate 8 (0:Int)):=rfl;have aB:∀r0:List Int,Hp ((s,((),((),()))),(r0,(bytesOf s++[128],())))=some ((s,((),((),()))),(r0,(ja s,()))):=by
  intro r0;have qP:∀i:Nat,(bytesOf s++[128]++List.replicate i (0:Int)).length=s.length+1+i:=fun i=>by simp[iT];omega
  have:=fx (g:=AB) (fun i=>((s,((),((),()))),(r0,(bytesOf s++[128]++List.replicate i (0:Int),())))) (j6 (s.length+1)) (b:=((s,((),((),()))),(r0,(ja s,())))) (fun i hi=>?_) ?_ (j6 (s.length+1)) 0 (by omega)
  ·rw[List.replicate_zero,List.append_nil] at this;exact this
  ·have hne:((((s.length+1+i)%64:Nat):Int) !=56)=true:=by have:=O9 (s.length+1) i hi;rw[bne_iff_ne];omega
   simp only[AB,qP,AU,Option.bind_some,hne,cond_true];rw[d' (by decide) (by unfold ap;rw[qP];simp;omega)]
   simp only[Option.bind_some,O3]
  ·have hne:((((s.length+1+j6 (s.length+1))%64:Nat):Int) !=56)=false:=by have:=Fe (s.length+1);rw[this];rfl
   simp only[AB,qP,AU,Option.bind_some,hne,cond_false];rfl
 have aA:∀(n:Int) (r0:List Int),F1 (((),((),(n,((56:Int),())))),(r0,(ja s,())))=some (((),((),())),(r0,(ja s++j0 n,()))):=by
  intro n r0;have:=fx (g:=GA) (fun i=>(((),((),(n,((56-8*(i:Int)),())))),(r0,(ja s++(j0 n).take i,())))) 8 (b:=(((),((),())),(r0,(ja s++j0 n,())))) (fun i hi=>?_) rfl 8 0 rfl
  ·rw[show(56:Int)-8*((0:Nat):Int)=56 from rfl,List.take_zero,List.append_nil] at this;exact this
  ·have hl:decide ((56-8*(i:Int))>=0)=true:=by simp;omega
   have hw:(56-8*(i:Int))=((8*(7-i):Nat):Int):=by omega
   have hs:IntKind.i64.wrap (56-8*(i:Int)-8)=56-8*((i+1:Nat):Int):=by rw[eg (by omega) (by omega)];omega
   have hx:e7 .u64 n (56-8*(i:Int))=some (n.fdiv (2^(8*(7-i)))):=by rw[hw];exact ahM (by omega)
   simp only[GA,hl,cond_true,hx,Option.bind_some,hs];rw[d' (by decide) (by unfold ap;simp[ED,j0];have:=uN (s.length+1);omega)]
   simp only[Option.bind_some,List.append_assoc,NQ n hi]
 have hp:∀q:cf,long 8 q.list=some q.list:=fun q=>rfl
 have bC:EJ (((),(ei s,((0:Int),()))),(w7.list,()))=some (((),()),((eA s).list,())):=by
  refine fx (g:=yo) (fun k=>(((),(ei s,(((64*k:Nat):Int),()))),((tl (ei s) k).list,()))) ((ei s).length/64) (fun k hk=>?_) ?_ ((ei s).length/64) 0 (by omega)
  ·have hk2:64*k+64<=(ei s).length:=by omega
   have hl:decide (((64*k:Nat):Int)<((ei s).length:Int))=true:=by simp;omega
   have hw:IntKind.i64.wrap (((64*k:Nat):Int)+64)=((64*k+64:Nat):Int):=by rw[eg (by omega) (by omega)];omega
   have hs:br (ei s) ((64*k:Nat):Int) ((64*k+64:Nat):Int)=some (qA (ei s) k):=pO (by omega) hk2
   have hb:=aay (tl (ei s) k) (qA (ei s) k) (Qh hk2 jI);have ar:∀q:cf,((q.list.getD 0 0,(q.list.getD 1 0,(q.list.getD 2 0,(q.list.getD 3 0,(q.list.getD 4 0,(q.list.getD 5 0,(q.list.getD 6 0,(q.list.getD 7 0,())))))))):Int×Int×Int×Int×Int×Int×Int×Int×Unit)=(q.a,(q.b,(q.c,(q.d,(q.e,(q.f,(q.g,(q.h,())))))))):=fun q=>rfl
   simp only[yo,hl,cond_true,hw,hs,Option.bind_some,hp,ar,hb];rfl
  ·have hl:decide (((64*((ei s).length/64):Nat):Int)<((ei s).length:Int))=false:=by simp;omega
   simp only[yo,hl,cond_false];rfl
 have hw:=Ut s;have cL:∀a b:Int,q4 a->q4 b->EI (((),(([a,b]:List Int),((([a,b]:List Int).length:Int),((0:Int),())))),(([]:List Int),(((),((),())),())))=some (((),()),(bytesOf (fE a++fE b),(((),((),())),()))):=by
  intro a b ha hb;have e1:=OS a ha [] (by simp) ([a,b]:List Int) ((2:Int)) (0:Int)
  have e2:=OS b hb (bytesOf (fE a)) (by rw[iT,OT];decide) ([a,b]:List Int) ((2:Int)) (1:Int)
  have dw:aU ([a,b]:List Int) 0=some a:=rfl;have eD:aU ([a,b]:List Int) 1=some b:=rfl;have fJ:pQ (((),(([a,b]:List Int),((2:Int),((0:Int),())))),(([]:List Int),(((),((),())),())))=some (.inl (((),(([a,b]:List Int),((2:Int),((1:Int),())))),(bytesOf (fE a),(((),((),())),())))):=by
   have:decide ((0:Int)<2)=true:=rfl;simp only[pQ,this,cond_true,dw,Option.bind_some,e1];rfl
  have s1:pQ (((),(([a,b]:List Int),((2:Int),((1:Int),())))),(bytesOf (fE a),(((),((),())),())))=some (.inl (((),(([a,b]:List Int),((2:Int),((2:Int),())))),(bytesOf (fE a++fE b),(((),((),())),())))):=by
   have:decide ((1:Int)<2)=true:=rfl;simp only[pQ,this,cond_true,eD,Option.bind_some,e2,oo];rfl
  have s2:pQ (((),(([a,b]:List Int),((2:Int),((2:Int),())))),(bytesOf (fE a++fE b),(((),((),())),())))=some (.inr (((),()),(bytesOf (fE a++fE b),(((),((),())),())))):=by
   have:decide ((2:Int)<2)=false:=rfl;simp only[pQ,this,cond_false]
  exact(dz fJ).trans ((dz s1).trans (ca s2))
 have hn:IntKind.u64.wrap (IntKind.u64.wrap (s.length:Int)*8)=(s.length:Int)*8:=by rw[IntKind.wrap_u64,IntKind.wrap_u64];omega
 have eI:([1779033703,3144134277,1013904242,2773480762,1359893119,2600822924,528734635,1541459225]:List Int)=w7.list:=rfl;have hz2:((long 8 (eA s).list).bind fun q=>br q (0:Int) (2:Int))=some [(eA s).a,(eA s).b]:=rfl
 have alN:ja s++j0 ((s.length:Int)*8)=ei s:=rfl;simp only[f69,h8,hm,ha,Option.bind_some,eI,aB,hn,aA,alN,bC,hz2,cL _ _ hw.1 hw.2,tX];rfl
abbrev RV:Shape:=⟨[aM 0 500000 0,ao 1],[bx 37000001 .u8 500000 1,aL 500000 [.dn,.own 37000001]],19⟩
abbrev RM:Shape:=⟨[aM 0 500000 0,ae 4,(5,.ak (.Bn))],[bx 37000001 .u8 500000 1,aL 500000 [.dn,.own 37000001]],19⟩
noncomputable def lR(a:RV.J):Option RM.J:=
(cy 1 a.2.1 (bytesOf a.1.2.1)).bind fun b=>
 some (((),(a.1.2.1.length:Int),(),()),b,((),(),()),())
noncomputable def Bd:aH:=aP aj Tryz.f63 RV RM [0] lR
theorem HP:aG U 63 Bd:=aS g0 Tryz.func63 (by kernel_rfl) ag (fun y=>by kernel_rfl) fun a=>by kernel_rfl
end Go.Proofs
namespace Go.Proofs
open Go.Shelf
def Tryz._p:Go.Shelf.Ren:=⟨fun|171=>64|243=>113|246=>165|283=>205|284=>206|285=>207|286=>208|129=>240|317=>239|318=>241|319=>242|320=>243|337=>269|338=>270|n=>n,fun|3=>3|9=>9|2=>2|4=>4|171=>224|0=>0|53=>155|37=>52|5=>5|173=>227|212=>244|51=>153|20=>20|213=>245|46=>203|232=>268|233=>269|n=>n,fun|17=>1|18=>3|19=>4|n=>n⟩
theorem Tryz.ae3:Go.Proofs.LaysM.n171 U Tryz._p:={
 mixed:=by kernel_rfl
 f129:=Tryz.func240.trans (congrArg some (by kernel_rfl))
 f171:=Tryz.func64.trans (congrArg some (by kernel_rfl))
 f243:=Tryz.func113.trans (congrArg some (by kernel_rfl))
 f246:=Tryz.func165.trans (congrArg some (by kernel_rfl))
 f283:=Tryz.func205.trans (congrArg some (by kernel_rfl))
 f284:=Tryz.func206.trans (congrArg some (by kernel_rfl))
 f285:=Tryz.func207.trans (congrArg some (by kernel_rfl))
 f286:=Tryz.func208.trans (congrArg some (by kernel_rfl))
 f317:=Tryz.func239.trans (congrArg some (by kernel_rfl))
 f318:=Tryz.func241.trans (congrArg some (by kernel_rfl))
 f319:=Tryz.func242.trans (congrArg some (by kernel_rfl))
 f320:=Tryz.func243.trans (congrArg some (by kernel_rfl))
 f337:=Tryz.func269.trans (congrArg some (by kernel_rfl))
 f338:=Tryz.func270.trans (congrArg some (by kernel_rfl))
 t0:=Tryz.underlying0
 a0:=Tryz.isAgg0
 z0:=Tryz.sizeOf0
 v0:=Tryz.zeroValue0
 t2:=Tryz.underlying2
 a2:=Tryz.isAgg2
 z2:=Tryz.sizeOf2
 v2:=Tryz.zeroValue2
 t3:=Tryz.underlying3
 a3:=Tryz.isAgg3
 z3:=Tryz.sizeOf3
 v3:=Tryz.zeroValue3
 t4:=Tryz.underlying4
 a4:=Tryz.isAgg4
 z4:=Tryz.sizeOf4
 v4:=Tryz.zeroValue4
 t5:=Tryz.underlying5
 a5:=Tryz.isAgg5
 z5:=Tryz.sizeOf5
 v5:=Tryz.zeroValue5
 t9:=Tryz.underlying9
 a9:=Tryz.isAgg9
 z9:=Tryz.sizeOf9
 v9:=Tryz.zeroValue9
 t20:=Tryz.underlying20
 a20:=Tryz.isAgg20
 z20:=Tryz.sizeOf20
 v20:=Tryz.zeroValue20
 t37:=Tryz.underlying52
 a37:=Tryz.isAgg52
 z37:=Tryz.sizeOf52
 v37:=Tryz.zeroValue52
 t46:=Tryz.underlying203
 a46:=Tryz.isAgg203
 z46:=Tryz.sizeOf203
 v46:=Tryz.zeroValue203
 t51:=Tryz.underlying153
 a51:=Tryz.isAgg153
 z51:=Tryz.sizeOf153
 v51:=Tryz.zeroValue153
 t53:=Tryz.underlying155
 a53:=Tryz.isAgg155
 z53:=Tryz.sizeOf155
 v53:=Tryz.zeroValue155
 t171:=Tryz.underlying224
 a171:=Tryz.isAgg224
 z171:=Tryz.sizeOf224
 v171:=Tryz.zeroValue224
 t173:=Tryz.underlying227
 a173:=Tryz.isAgg227
 z173:=Tryz.sizeOf227
 v173:=Tryz.zeroValue227
 t212:=Tryz.underlying244
 a212:=Tryz.isAgg244
 z212:=Tryz.sizeOf244
 v212:=Tryz.zeroValue244
 t213:=Tryz.underlying245
 a213:=Tryz.isAgg245
 z213:=Tryz.sizeOf245
 t232:=Tryz.underlying268
 a232:=Tryz.isAgg268
 z232:=Tryz.sizeOf268
 v232:=Tryz.zeroValue268
 t233:=Tryz.underlying269
 a233:=Tryz.isAgg269
 z233:=Tryz.sizeOf269
 v233:=Tryz.zeroValue269
 g17:=by kernel_rfl
 g18:=by kernel_rfl
 g19:=by kernel_rfl
 i0:=by kernel_rfl
 i2:=by kernel_rfl
 i3:=by kernel_rfl
 i4:=by kernel_rfl
 i5:=by kernel_rfl
 i9:=by kernel_rfl
 i20:=by kernel_rfl
 i37:=by kernel_rfl
 i46:=by kernel_rfl
 i51:=by kernel_rfl
 i53:=by kernel_rfl
 i171:=by kernel_rfl
 i173:=by kernel_rfl
 i212:=by kernel_rfl
 i232:=by kernel_rfl
 i233:=by kernel_rfl
 m17:=by kernel_rfl
 m18:=by kernel_rfl
 m19:=by kernel_rfl}
open Go.RowKit Go.Sort Go.Lib in
theorem Tryz.strconv_Itoa(n:Int)(h0:-9223372036854775808<=n)(h1:n<=9223372036854775807)(w:World)(alK:Lib.TabIs U w "internal/strconv.uint64pow10" .u64 Lib.pow10Tab):
  Calls U 64 #[.int .i64 n] w fun e w'=>e=.returned (.string ⟨(Lib.itoa n).toArray⟩)/\∃k os,w'=grow (w.drewN k) os:=Any.strconv_Itoa Tryz.ae3 n h0 h1 w alK
def Tryz.aae:Go.Shelf.Ren:=⟨fun|153=>214|152=>252|226=>253|227=>254|228=>255|137=>274|119=>275|224=>246|225=>245|217=>244|266=>271|n=>n,fun|9=>9|3=>3|4=>4|5=>5|21=>21|117=>253|116=>252|0=>0|46=>203|124=>264|n=>n,fun|n=>n⟩
theorem Tryz.agX:Go.Proofs.Lays.n153 U Tryz.aae:={
 mixed:=by kernel_rfl
 f119:=Tryz.func275.trans (congrArg some (by kernel_rfl))
 f137:=Tryz.func274.trans (congrArg some (by kernel_rfl))
 f152:=Tryz.func252.trans (congrArg some (by kernel_rfl))
 f153:=Tryz.func214.trans (congrArg some (by kernel_rfl))
 f217:=Tryz.func244.trans (congrArg some (by kernel_rfl))
 f224:=Tryz.func246.trans (congrArg some (by kernel_rfl))
 f225:=Tryz.func245.trans (congrArg some (by kernel_rfl))
 f226:=Tryz.func253.trans (congrArg some (by kernel_rfl))
 f227:=Tryz.func254.trans (congrArg some (by kernel_rfl))
 f228:=Tryz.func255.trans (congrArg some (by kernel_rfl))
 f266:=Tryz.func271.trans (congrArg some (by kernel_rfl))
 t0:=Tryz.underlying0
 a0:=Tryz.isAgg0
 z0:=Tryz.sizeOf0
 v0:=Tryz.zeroValue0
 t3:=Tryz.underlying3
 a3:=Tryz.isAgg3
 z3:=Tryz.sizeOf3
 v3:=Tryz.zeroValue3
 t4:=Tryz.underlying4
 a4:=Tryz.isAgg4
 z4:=Tryz.sizeOf4
 v4:=Tryz.zeroValue4
 t5:=Tryz.underlying5
 a5:=Tryz.isAgg5
 z5:=Tryz.sizeOf5
 v5:=Tryz.zeroValue5
 t9:=Tryz.underlying9
 a9:=Tryz.isAgg9
 z9:=Tryz.sizeOf9
 v9:=Tryz.zeroValue9
 t21:=Tryz.underlying21
 a21:=Tryz.isAgg21
 z21:=Tryz.sizeOf21
 v21:=Tryz.zeroValue21
 t46:=Tryz.underlying203
 a46:=Tryz.isAgg203
 z46:=Tryz.sizeOf203
 v46:=Tryz.zeroValue203
 t116:=Tryz.underlying252
 a116:=Tryz.isAgg252
 z116:=Tryz.sizeOf252
 t117:=Tryz.underlying253
 a117:=Tryz.isAgg253
 z117:=Tryz.sizeOf253
 v117:=Tryz.zeroValue253
 t124:=Tryz.underlying264
 a124:=Tryz.isAgg264
 z124:=Tryz.sizeOf264
 v124:=Tryz.zeroValue264}
end Go.Proofs
namespace Go.Proofs
open Go.Jk
noncomputable def BC:aH:=EX
theorem H5:aG U 64 BC:=agZ (fun _ _=>enters_of Tryz.func64 (by kernel_rfl) rfl _ _) fun n h0 h1 w hw=>Tryz.strconv_Itoa n h0 h1 w (ad6 (by kernel_rfl) (show nN w 1 .u64 Lib.pow10Tab from hw.2))
noncomputable abbrev ant:bi:=[(63,Bd),(64,BC),(105,vL)]
theorem Wh:a_ U (bg aj ant):=bf ⟨HP,H5,z105,⟨⟩⟩
abbrev ye:Shape:=⟨[aM 3 3 0,aK 10 .entry,ae 11,ae 12],[bx 5000193 .u8 3 1,aL 3 [.dn,.own 5000193]],64⟩
abbrev Eu:List aO:=[(.exit 0,⟨[aM 3 3 0],[bx 5000193 .u8 3 1,aL 3 [.dn,.own 5000193]],64⟩)]
noncomputable def yw(y:ye.J):bR ye Eu:=
 bif(decide (y.1.2.2.2.1<y.1.2.2.1)) then
(aU y.1.2.1 y.1.2.2.2.1).bind fun a=>
(if-9223372036854775808<=a.mode/\a.mode<=9223372036854775807 then some () else none).bind fun b=>
 bif(a.kind==(1:Int)) then
(bY ([100,105,114,32]:F) (Lib.itoa a.mode)).bind fun c=>
(bY c ([32]:F)).bind fun d=>
(bY d a.path).bind fun e=>
(bY e ([10]:F)).bind fun f=>
(lR (((),f,()),y.2.1,((),(),()),())).bind fun g=>
 some (.inl (((),y.1.2.1,y.1.2.2.1,(IntKind.i64.wrap (y.1.2.2.2.1+(1:Int))),()),g.2.1,((),(),()),()))
else
 bif(a.kind==(2:Int)) then
(bY ([102,105,108,101,32]:F) (Lib.itoa a.mode)).bind fun h=>
(bY h ([32]:F)).bind fun i=>
(bY i a.path).bind fun j=>
(bY j ([32]:F)).bind fun k=>
(if-9223372036854775808<=(a.text.length:Int)/\(a.text.length:Int)<=9223372036854775807 then some () else none).bind fun l=>
(bY k (Lib.itoa (a.text.length:Int))).bind fun m=>
(bY m ([10]:F)).bind fun n=>
(lR (((),n,()),y.2.1,((),(),()),())).bind fun B=>
(bY a.text ([10]:F)).bind fun p=>
(lR (((),p,()),B.2.1,((),(),()),())).bind fun q=>
 some (.inl (((),y.1.2.1,y.1.2.2.1,(IntKind.i64.wrap (y.1.2.2.2.1+(1:Int))),()),q.2.1,((),(),()),()))
else
 bif(a.kind==(3:Int)) then
(bY ([108,105,110,107,32]:F) a.path).bind fun r=>
(bY r ([32]:F)).bind fun s=>
(bY s a.text).bind fun t=>
(bY t ([10]:F)).bind fun u=>
(lR (((),u,()),y.2.1,((),(),()),())).bind fun v=>
 some (.inl (((),y.1.2.1,y.1.2.2.1,(IntKind.i64.wrap (y.1.2.2.2.1+(1:Int))),()),v.2.1,((),(),()),()))
else
 some (.inl (((),y.1.2.1,y.1.2.2.1,(IntKind.i64.wrap (y.1.2.2.2.1+(1:Int))),()),y.2.1,((),(),()),()))
else
 some (.inr (((),()),y.2.1,((),(),()),()))
noncomputable def EV:ye.J->Option (aD Eu):=bv yw
theorem aeK:aY U (an (codeOf Tryz.f120) 1 122) (a' ye Eu EV):=bT Wh (by kernel_rfl) ag fun y=>by kernel_rfl
abbrev i120:Shape:=⟨[aK 0 .entry],[],64⟩
abbrev TT:Shape:=⟨[ao 2],[],64⟩
noncomputable def f120(a:i120.J):Option TT.J:=
(f105 ((a.1.1,()),())).bind fun b=>
 bif(!b.1.1) then
 some ((([]:F),()),())
else
(EV (((),a.1.1,(a.1.1.length:Int),(0:Int),()),([]:List Int),((),(),()),())).bind fun c=>
 some (((strOf c.2.1),()),())
noncomputable def VP:aH:=aP aj Tryz.f120 i120 TT [] f120
theorem ak3:aG U 120 VP:=aS Wh Tryz.func120 (by kernel_rfl) (ba aeK ag) (fun y=>by kernel_rfl) fun a=>by kernel_rfl
abbrev i83:Shape:=⟨[ae 0],[],28⟩
abbrev mO:Shape:=⟨[ao 2],[],28⟩
noncomputable def IV(aX:i83.J->Option mO.J):aH:=aP aj Tryz.f83 i83 mO [] aX
noncomputable abbrev arw(aX:i83.J->Option mO.J):bi:=[(83,(IV aX))]
theorem ar4(aX:i83.J->Option mO.J)(fm:aG U 83 (IV aX)):a_ U (bg aj (arw aX)):=bf ⟨fm,⟨⟩⟩
noncomputable def o8(aX:i83.J->Option mO.J)(a:i83.J):Option mO.J:=
 bif(decide (a.1.1<((-9223372036854775807):Int))) then
 some ((([45,57,50,50,51,51,55,50,48,51,54,56,53,52,55,55,53,56,48,56]:F),()),())
else
 bif(decide (a.1.1<(0:Int))) then
(aX (((IntKind.i64.wrap (0-a.1.1)),()),())).bind fun b=>
(bY ([45]:F) b.1.1).bind fun c=>
 some ((c,()),())
else
 bif(decide (a.1.1<(10:Int))) then
 some (((strOf ([(IntKind.u8.wrap (IntKind.i64.wrap ((48:Int)+a.1.1)))]:List Int)),()),())
else
(nO .i64 a.1.1 (10:Int)).bind fun d=>
(aX ((d,()),())).bind fun e=>
(lU a.1.1 (10:Int)).bind fun f=>
(bY e.1.1 (strOf ([(IntKind.u8.wrap (IntKind.i64.wrap ((48:Int)+f)))]:List Int))).bind fun g=>
 some ((g,()),())
theorem akb(aX:i83.J->Option mO.J)(fm:aG U 83 (IV aX)):aG U 83 (aP aj Tryz.f83 i83 mO [] (o8 aX)):=aS (ar4 aX fm) Tryz.func83 (by kernel_rfl) ag (fun y=>by kernel_rfl) fun a=>by kernel_rfl
noncomputable def f83:i83.J->Option mO.J:=sJ o8 A7
noncomputable def Cs:aH:=aP aj Tryz.f83 i83 mO [] f83
theorem Jn:aG U 83 Cs:=ahT (ff:=o8) akb A7
noncomputable abbrev amB:bi:=[(83,Cs)]
theorem anM:a_ U (bg aj amB):=bf ⟨Jn,⟨⟩⟩
abbrev i226:Shape:=⟨[cC 0 [ai,bq,bq,ai]],[],45⟩
abbrev SQ:Shape:=⟨[ao 2],[],45⟩
noncomputable def f226(a:i226.J):Option SQ.J:=
 bif(a.1.1.2.1==(1:Int)) then
(f83 ((a.1.1.2.2.1,()),())).bind fun b=>
(bY ([100,105,114,32]:F) b.1.1).bind fun c=>
(bY c ([32]:F)).bind fun d=>
(bY d a.1.1.1).bind fun e=>
(bY e ([10]:F)).bind fun f=>
 some ((f,()),())
else
 bif(a.1.1.2.1==(3:Int)) then
(bY ([108,105,110,107,32]:F) a.1.1.1).bind fun g=>
(bY g ([32]:F)).bind fun h=>
(bY h a.1.1.2.2.2.1).bind fun i=>
(bY i ([10]:F)).bind fun j=>
 some ((j,()),())
else
(f83 ((a.1.1.2.2.1,()),())).bind fun k=>
(bY ([102,105,108,101,32]:F) k.1.1).bind fun l=>
(bY l ([32]:F)).bind fun m=>
(bY m a.1.1.1).bind fun n=>
(bY n ([32]:F)).bind fun B=>
(f83 (((a.1.1.2.2.2.1.length:Int),()),())).bind fun p=>
(bY B p.1.1).bind fun q=>
(bY q ([10]:F)).bind fun r=>
(bY r a.1.1.2.2.2.1).bind fun s=>
(bY s ([10]:F)).bind fun t=>
 some ((t,()),())
noncomputable def UV:aH:=aP aj Tryz.f226 i226 SQ [] f226
theorem z226:aG U 226 UV:=aS anM Tryz.func226 (by kernel_rfl) ag (fun y=>by kernel_rfl) fun a=>by kernel_rfl
noncomputable abbrev amT:bi:=[(226,UV)]
theorem V5:a_ U (bg aj amT):=bf ⟨z226,⟨⟩⟩
abbrev yQ:Shape:=⟨[aK 0 .entry,ao 3,ae 4],[],19⟩
abbrev Fy:List aO:=[(.exit 0,⟨[ao 3],[],19⟩)]
noncomputable def zt(y:yQ.J):bR yQ Fy:=
 bif(decide (y.1.2.2.1<(y.1.1.length:Int))) then
(aU y.1.1 y.1.2.2.1).bind fun a=>
(f226 (((a.path,a.kind,a.mode,a.text,()),()),())).bind fun b=>
(bY y.1.2.1 b.1.1).bind fun c=>
 some (.inl ((y.1.1,c,(IntKind.i64.wrap (y.1.2.2.1+(1:Int))),()),()))
else
 some (.inr ((y.1.2.1,()),()))
noncomputable def Gb:yQ.J->Option (aD Fy):=bv zt
theorem agl:aY U (an (codeOf Tryz.f181) 1 58) (a' yQ Fy Gb):=bT V5 (by kernel_rfl) ag fun y=>by kernel_rfl
abbrev i181:Shape:=⟨[aK 0 .entry],[],19⟩
abbrev Tj:Shape:=⟨[ao 2],[],19⟩
noncomputable def f181(a:i181.J):Option Tj.J:=
(Gb ((a.1.1,([]:F),(0:Int),()),())).bind fun b=>
 some ((b.1.1,()),())
noncomputable def I5:aH:=aP aj Tryz.f181 i181 Tj [] f181
theorem Sj:aG U 181 I5:=aS V5 Tryz.func181 (by kernel_rfl) (ba agl ag) (fun y=>by kernel_rfl) fun a=>by kernel_rfl
theorem O6(m:Nat)(h:m<10):strOf ([(IntKind.u8.wrap (IntKind.i64.wrap ((48:Int)+(m:Int))))]:List Int)=[UInt8.ofNat (48+m)]:=by
 have:IntKind.u8.wrap (IntKind.i64.wrap ((48:Int)+(m:Int)))=((48+m:Nat):Int):=by
  rw[eg (by omega) (by omega),IntKind.wrap_u8];omega
 rw[this];rfl
theorem Qg:∀n:Nat,n<10^20->(Lib.decDigits n).length<=20:=by
 have:∀(k n:Nat),n<10^(k+1)->(Lib.decDigits n).length<=k+1:=by
  intro k;induction k with
  |zero=>intro n h;rw[Lib.decDigits,dif_pos (by omega)];simp
  |succ k ih=>
   intro n h;rw[Lib.decDigits];split
   ·simp
   ·have:=ih (n/10) (by rw[Nat.pow_succ] at h;omega)
    simp;omega
 intro n h;exact this 19 n h
theorem pP(n:Nat):Lib.itoa (n:Int)=Lib.decDigits n:=by unfold Lib.itoa;rw[if_neg (by omega),Int.toNat_natCast]
theorem k2(n:Nat)(h:n<=4611686018427387904):(Lib.itoa (n:Int)).length<=20:=by rw[pP];exact Qg n (by omega)
theorem adS:∀(m:Nat),m<=4611686018427387903->∀f:Nat,m<f->sJ o8 f (((m:Int),()),())=some ((Lib.decDigits m,()),()):=by
 intro m;induction m using Nat.strongRecOn with
 |_ m ih=>
  intro hm f hf;obtain⟨f,rfl⟩:∃asQ,f=asQ+1:=⟨f-1,by omega⟩
  show o8 (sJ o8 f) (((m:Int),()),())=_;have h1:decide ((m:Int)< -9223372036854775807)=false:=decide_eq_false (by omega)
  have h2:decide ((m:Int)<0)=false:=decide_eq_false (by omega)
  have h3:decide ((m:Int)<10)=decide (m<10):=by congr 1;apply propext;omega
  rw[Lib.decDigits];by_cases h:m<10
  ·rw[dif_pos h];simp only[o8,h1,h2,h3,h,decide_true,cond_true,cond_false,O6 m h]
  ·have ar:nO .i64 (m:Int) 10=some ((m/10:Nat):Int):=by exact ahU rfl (by omega) (by omega) (by decide)
   have hr:lU (m:Int) 10=some ((m%10:Nat):Int):=by exact Ha (by omega) (by decide)
   rw[dif_neg h];simp only[o8,h1,h2,h3,h,decide_false,cond_false,ar,hr,Option.bind_some,ih (m/10) (by omega) (by omega) f (by omega),O6 (m%10) (by omega)]
   rw[dA (by have:=Qg (m/10) (by omega);simp;omega)]
   rfl
theorem yz(m:Nat)(h:m<=4611686018427387903):f83 (((m:Int),()),())=some ((Lib.itoa (m:Int),()),()):=by
 rw[pP];exact adS m h A7 (by unfold A7;omega)
def ea(e:az):F:=bif e.kind==1 then [100,105,114,32]++Lib.itoa e.mode++[32]++e.path++[10] else bif e.kind==3 then [108,105,110,107,32]++e.path++[32]++e.text++[10]
 else [102,105,108,101,32]++Lib.itoa e.mode++[32]++e.path++[32]++Lib.itoa (e.text.length:Int)++[10]++e.text++[10]
def dd(t:List az):F:=t.flatMap ea
abbrev ol(e:az):Prop:=0<=e.mode/\e.mode<=7
theorem Gt{e:az}(h:ol e):(Lib.itoa e.mode).length<=20:=by
 obtain⟨n,hn⟩:=Int.eq_ofNat_of_zero_le h.1;rw[hn];exact k2 n (by have:=h.2;omega)
theorem DP{e:az}(h:ol e)(hb:lr e):(ea e).length<=4194404:=by
 have h1:=Gt h;have h2:=k2 e.text.length (by have:=hb.2;omega)
 have h3:=hb.1;have aw:=hb.2;unfold ea;cases e.kind==1<;>cases e.kind==3<;>simp<;>omega
theorem adP(e:az)(h:ol e)(hb:lr e):f226 (((e.path,(e.kind,(e.mode,(e.text,())))),()),())=some ((ea e,()),()):=by
 have h1:=Gt h;have h2:=k2 e.text.length (by have:=hb.2;omega)
 have h3:=hb.1;have aw:=hb.2;obtain⟨n,hn⟩:=Int.eq_ofNat_of_zero_le h.1;have d1:=yz n (by have:=h.2;omega)
 rw[<-hn] at d1;have d2:=yz e.text.length (by omega)
 unfold ea;simp only[f226];cases e.kind==1 with
 |true=>
  simp only[cond_true,d1,Option.bind_some];repeat(rw[dA (by simp;omega),Option.bind_some])
 |false=>
  cases e.kind==3 with
  |true=>
   simp only[cond_true,cond_false,Option.bind_some];repeat(rw[dA (by simp;omega),Option.bind_some])
  |false=>
   simp only[cond_false,d1,d2,Option.bind_some];repeat(rw[dA (by simp;omega),Option.bind_some])
theorem pW{ax:Type}{f:ax->F}{n:Nat}:∀{xs:List ax},(∀x,x∈xs->(f x).length<=n)->(xs.flatMap f).length<=xs.length*n:=by
 intro xs;induction xs with
 |nil=>intro _;simp
 |cons x r ih=>
  intro h;have h1:=h x List.mem_cons_self;have h2:=ih fun y hy=>h y (List.mem_cons_of_mem _ hy)
  rw[List.flatMap_cons,List.length_append,List.length_cons,Nat.add_mul];omega
theorem mo{ax:Type}(f:ax->F){xs:List ax}{i:Nat}{x:ax}(h:xs[i]? =some x):(xs.take (i+1)).flatMap f=(xs.take i).flatMap f++f x:=by
 rw[List.take_add_one,h,List.flatMap_append];simp
theorem xn{t:List az}(hm:∀e,e∈t->ol e)(hb:io t)(hl:t.length<=16):(dd t).length<=67110464:=by
 have h1:=pW (f:=ea) (xs:=t) (n:=4194404) fun e he=>DP (hm e he) (hb.2 e he)
 unfold dd;exact Nat.le_trans h1 (by omega)
theorem pL{ax:Type}{xs:List ax}{i:Nat}{x:ax}(h:x∈xs.take i):x∈xs:=List.mem_of_mem_take h
theorem LO{t:List az}(hm:∀e,e∈t->ol e)(hb:io t)(hl:t.length<=16)(i:Nat):((t.take i).flatMap ea).length<=67110464:=
 xn (t:=t.take i) (fun e he=>hm e (pL he)) ⟨Nat.le_trans (List.take_sublist i t).length_le hb.1,fun e he=>hb.2 e (pL he)⟩ (Nat.le_trans (List.take_sublist i t).length_le hl)
theorem Ds(t:List az)(hm:∀e,e∈t->ol e)(hb:io t)(hl:t.length<=16):f181 ((t,()),())=some ((dd t,()),()):=by
 have aB:Gb ((t,(([]:F),((0:Int),()))),())=some ((dd t,()),()):=by
  refine fx (g:=zt) (fun i=>((t,((t.take i).flatMap ea,((i:Int),()))),())) t.length (fun i hi=>?_) ?_ t.length 0 (by omega)
  ·obtain⟨e,he⟩:∃e,t[i]? =some e:=⟨t[i],List.getElem?_eq_getElem hi⟩;have ec:=List.mem_of_getElem? he;have:=LO hm hb hl i;have gX:=DP (hm e ec) (hb.2 e ec);simp only[zt,b8 hi,cond_true,bX,he,Option.bind_some,adP e (hm e ec) (hb.2 e ec)];rw[dA (by omega),bS (by unfold ap;omega),mo ea he]
   rfl
  ·simp only[zt,dh,cond_false,List.take_length];rfl
 simp only[f181,aB,Option.bind_some]
theorem rN{n a b:Int}(h:within n a b=true):a<=n/\n<=b:=by
 unfold within at h;simpa using h
theorem E9{e:az}(h:eL e=true):ol e:=by
 unfold eL at h;simp only[Bool.and_eq_true] at h;have h:=h.2;cases aB:(e.kind==1) with
 |true=>
  rw[aB] at h;simp only[cond_true,Bool.and_eq_true] at h;exact rN h.1
 |false=>
  cases aA:(e.kind==2) with
  |true=>
   rw[aB,aA] at h;simp only[cond_true,cond_false,Bool.and_eq_true] at h;exact rN h.1
  |false=>
   rw[aB,aA] at h;cases bC:(e.kind==3) with
   |true=>
    rw[bC] at h;simp only[cond_true,cond_false,Bool.and_eq_true,beq_iff_eq] at h;exact⟨by rw[h.1];decide,by rw[h.1];decide⟩
   |false=>rw[bC] at h;cases h
theorem ub{e:az}(h:eL e=true):e.kind=1\/e.kind=2\/e.kind=3:=by
 unfold eL at h;simp only[Bool.and_eq_true] at h;have h:=h.2;cases aB:(e.kind==1) with
 |true=>exact .inl (eq_of_beq aB)
 |false=>
  cases aA:(e.kind==2) with
  |true=>exact .inr (.inl (eq_of_beq aA))
  |false=>
   cases bC:(e.kind==3) with
   |true=>exact .inr (.inr (eq_of_beq bC))
   |false=>rw[aB,aA,bC] at h;cases h
theorem t_{t:List az}(h:dL t=true):∀e,e∈t->eL e=true:=by
 intro e he;unfold dL at h;simp only[Bool.and_eq_true] at h;obtain⟨i,hi⟩:=List.getElem?_of_mem he;have:=yy t 0 h.1.1 i e hi;unfold iE at this;simp only[Bool.and_eq_true] at this;exact this.1
theorem oD(xs:List Int)(s:F)(h:ap (xs.length+s.length)):lR (((),(s,())),(xs,(((),((),())),())))=some (((),((s.length:Int),((),()))),(xs++bytesOf s,(((),((),())),()))):=by
 simp only[lR];rw[d' (by decide) (by rw[iT];exact h)]
 rfl
theorem Hy{n:Int}(h:-9223372036854775808<=n/\n<=9223372036854775807):(if-9223372036854775808<=n/\n<=9223372036854775807 then some () else none)=some ():=if_pos h
theorem _J(t:List az)(hb:io t):f120 ((t,()),())=some (((bif dL t then dd t else []),()),()):=by
 have h0:=pF ((t,()),()) hb;simp only[f120,h0,Option.bind_some];cases fv:dL t with
 |false=>rfl
 |true=>
  have hl:=jp fv;have Un:=t_ fv;have hm:∀e,e∈t->ol e:=fun e he=>E9 (Un e he)
  have aB:EV (((),(t,((t.length:Int),((0:Int),())))),(([]:List Int),(((),((),())),())))=some (((),()),(bytesOf (dd t),(((),((),())),()))):=by
   refine fx (g:=yw) (fun i=>(((),(t,((t.length:Int),((i:Int),())))),(bytesOf ((t.take i).flatMap ea),(((),((),())),())))) t.length (fun i hi=>?_) ?_ t.length 0 (by omega)
   ·obtain⟨e,he⟩:∃e,t[i]? =some e:=⟨t[i],List.getElem?_eq_getElem hi⟩;have ec:=List.mem_of_getElem? he;have im:=LO hm hb hl i;have gX:=DP (hm e ec) (hb.2 e ec);have h1:=Gt (hm e ec);have h2:=k2 e.text.length (by have:=(hb.2 e ec).2;omega)
    have h3:=(hb.2 e ec).1;have aw:=(hb.2 e ec).2;have aum:=hm e ec;have i1:=Hy (n:=e.mode) ⟨by omega,by omega⟩
    have i2:=Hy (n:=(e.text.length:Int)) ⟨by omega,by omega⟩
    rw[mo ea he,oo];simp only[yw,b8 hi,cond_true,bX,he,Option.bind_some,i1,i2,bS (i:=i) (by unfold ap;omega)]
    generalize List.flatMap ea (List.take i t)=A at im ⊢;rcases ub (Un e ec) with hk|hk|hk
    ·have e1:ea e=[100,105,114,32]++Lib.itoa e.mode++[32]++e.path++[10]:=by unfold ea;rw[hk];rfl
     rw[hk,show((1:Int)==1)=true from rfl,cond_true,e1]
     repeat(rw[dA (by simp;omega),Option.bind_some])
     rw[oD _ _ (by unfold ap;rw[iT];simp;omega)]
     rfl
    ·have e1:ea e=[102,105,108,101,32]++Lib.itoa e.mode++[32]++e.path++[32]++Lib.itoa (e.text.length:Int)++[10]++(e.text++[10]):=by unfold ea;rw[hk];simp
     rw[hk,show((2:Int)==1)=false from rfl,show((2:Int)==2)=true from rfl,cond_false,cond_true,e1]
     repeat(rw[dA (by simp;omega),Option.bind_some])
     rw[oD _ _ (by unfold ap;rw[iT];simp;omega),Option.bind_some]
     rw[dA (by simp;omega),Option.bind_some]
     rw[oD _ _ (by unfold ap;simp[iT];omega),oo _ (e.text++[10]),<-List.append_assoc]
     rfl
    ·have e1:ea e=[108,105,110,107,32]++e.path++[32]++e.text++[10]:=by unfold ea;rw[hk];rfl
     rw[hk,show((3:Int)==1)=false from rfl,show((3:Int)==2)=false from rfl,show((3:Int)==3)=true from rfl,cond_false,cond_false,cond_true,e1]
     repeat(rw[dA (by simp;omega),Option.bind_some])
     rw[oD _ _ (by unfold ap;rw[iT];simp;omega)]
     rfl
   ·simp only[yw,dh,cond_false,List.take_length];rfl
  simp only[Bool.not_true,cond_false,cond_true,aB,Option.bind_some,tX]
noncomputable abbrev anu:bi:=[(102,vM)]
theorem an6:a_ U (bg aj anu):=bf ⟨Bi,⟨⟩⟩
abbrev i119:Shape:=⟨[cC 0 [ai,bq,ai]],[],34⟩
abbrev TU:Shape:=⟨[ao 2],[],34⟩
noncomputable def f119(a:i119.J):Option TU.J:=
(f102 (((a.1.1.1,a.1.1.2.1,a.1.1.2.2.1,()),()),())).bind fun b=>
 bif(!b.1.1) then
 some ((([]:F),()),())
else
 bif(a.1.1.2.1==(1:Int)) then
(bY a.1.1.1 ([61]:F)).bind fun c=>
(bY c a.1.1.2.2.1).bind fun d=>
 some ((d,()),())
else
 bif(a.1.1.2.1==(2:Int)) then
(bY a.1.1.1 ([62,61]:F)).bind fun e=>
(bY e a.1.1.2.2.1).bind fun f=>
 some ((f,()),())
else
 bif(a.1.1.2.1==(3:Int)) then
(bY a.1.1.1 ([60]:F)).bind fun g=>
(bY g a.1.1.2.2.1).bind fun h=>
 some ((h,()),())
else
 some ((a.1.1.1,()),())
noncomputable def VQ:aH:=aP aj Tryz.f119 i119 TU [] f119
theorem z119:aG U 119 VQ:=aS an6 Tryz.func119 (by kernel_rfl) ag (fun y=>by kernel_rfl) fun a=>by kernel_rfl
abbrev i225:Shape:=⟨[ae 0],[],10⟩
abbrev SR:Shape:=⟨[ao 2],[],10⟩
noncomputable def f225(a:i225.J):Option SR.J:=
 bif(a.1.1==(1:Int)) then
 some ((([61]:F),()),())
else
 bif(a.1.1==(2:Int)) then
 some ((([62,61]:F),()),())
else
 bif(a.1.1==(3:Int)) then
 some ((([60]:F),()),())
else
 some ((([]:F),()),())
noncomputable def IY:aH:=aP aj Tryz.f225 i225 SR [] f225
theorem Sf:aG U 225 IY:=aS g0 Tryz.func225 (by kernel_rfl) ag (fun y=>by kernel_rfl) fun a=>by kernel_rfl
noncomputable abbrev amD:bi:=[(225,IY)]
theorem anN:a_ U (bg aj amD):=bf ⟨Sf,⟨⟩⟩
abbrev i218:Shape:=⟨[cC 0 [ai,bq,ai]],[],12⟩
abbrev SV:Shape:=⟨[ao 2],[],12⟩
noncomputable def f218(a:i218.J):Option SV.J:=
(f225 ((a.1.1.2.1,()),())).bind fun b=>
(bY a.1.1.1 b.1.1).bind fun c=>
(bY c a.1.1.2.2.1).bind fun d=>
 some ((d,()),())
noncomputable def IZ:aH:=aP aj Tryz.f218 i218 SV [] f218
theorem z218:aG U 218 IZ:=aS anN Tryz.func218 (by kernel_rfl) ag (fun y=>by kernel_rfl) fun a=>by kernel_rfl
noncomputable abbrev amX:bi:=[(181,I5),(218,IZ)]
theorem V6:a_ U (bg aj amX):=bf ⟨Sj,z218,⟨⟩⟩
abbrev yS:Shape:=⟨[aM 1 1 0,ao 3,ae 4],[aL 1 [ai,ai,c4 .need,c4 .entry]],36⟩
abbrev FA:List aO:=[(.exit 0,⟨[aM 1 1 0,ao 3],[aL 1 [ai,ai,c4 .need,c4 .entry]],36⟩)]
noncomputable def zu(y:yS.J):bR yS FA:=
 bif(decide (y.1.2.2.1<(y.2.1.2.2.1.length:Int))) then
(bY y.1.2.1 ([110,101,101,100,32]:F)).bind fun a=>
(aU y.2.1.2.2.1 y.1.2.2.1).bind fun b=>
(f218 (((b.name,b.kind,b.aV,()),()),())).bind fun c=>
(bY a c.1.1).bind fun d=>
(bY d ([10]:F)).bind fun e=>
 some (.inl (((),e,(IntKind.i64.wrap (y.1.2.2.1+(1:Int))),()),(y.2.1.1,y.2.1.2.1,y.2.1.2.2.1,y.2.1.2.2.2.1,()),()))
else
 some (.inr (((),y.1.2.1,()),(y.2.1.1,y.2.1.2.1,y.2.1.2.2.1,y.2.1.2.2.2.1,()),()))
noncomputable def Gc:yS.J->Option (aD FA):=bv zu
theorem agn:aY U (an (codeOf Tryz.f172) 1 58) (a' yS FA Gc):=bT V6 (by kernel_rfl) ag fun y=>by kernel_rfl
abbrev i172:Shape:=⟨[cC 0 [ai,ai,c4 .need,c4 .entry]],[],36⟩
abbrev Tm:Shape:=⟨[ao 2],[],36⟩
noncomputable def f172(a:i172.J):Option Tm.J:=
(bY ([112,97,99,107,32]:F) a.1.1.1).bind fun b=>
(bY b ([32]:F)).bind fun c=>
(bY c a.1.1.2.1).bind fun d=>
(bY d ([10]:F)).bind fun e=>
(Gc (((),e,(0:Int),()),(a.1.1.1,a.1.1.2.1,a.1.1.2.2.1,a.1.1.2.2.2.1,()),())).bind fun f=>
(bY f.1.2.1 ([10]:F)).bind fun g=>
(f181 ((f.2.1.2.2.2.1,()),())).bind fun h=>
(bY g h.1.1).bind fun i=>
 some ((i,()),())
noncomputable def Vj:aH:=aP aj Tryz.f172 i172 Tm [] f172
theorem akL:aG U 172 Vj:=aS V6 Tryz.func172 (by kernel_rfl) (ba agn ag) (fun y=>by kernel_rfl) fun a=>by kernel_rfl
noncomputable abbrev anr:bi:=[(172,Vj),(173,Vi)]
theorem an5:a_ U (bg aj anr):=bf ⟨akL,z173,⟨⟩⟩
abbrev i123:Shape:=⟨[cC 0 [ai,ai,c4 .need,c4 .entry]],[],12⟩
abbrev TR:Shape:=⟨[ao 2],[],12⟩
noncomputable def f123(a:i123.J):Option TR.J:=
(f172 (((a.1.1.1,a.1.1.2.1,a.1.1.2.2.1,a.1.1.2.2.2.1,()),()),())).bind fun b=>
(f173 ((b.1.1,()),())).bind fun c=>
(bY ([115,117,109,32]:F) c.1.1).bind fun d=>
(bY d ([10]:F)).bind fun e=>
(bY e b.1.1).bind fun f=>
 some ((f,()),())
noncomputable def I9:aH:=aP aj Tryz.f123 i123 TR [] f123
theorem Sm:aG U 123 I9:=aS an5 Tryz.func123 (by kernel_rfl) ag (fun y=>by kernel_rfl) fun a=>by kernel_rfl
noncomputable abbrev arB:bi:=[(63,Bd),(119,VQ),(120,VP)]
theorem YA:a_ U (bg aj arB):=bf ⟨HP,z119,ak3,⟨⟩⟩
abbrev yC:Shape:=⟨[aM 1 1 0,aM 3 3 0,aK 16 .need,ae 17,ae 18],[aL 1 [ai,ai,c4 .need,c4 .entry],bx 5000193 .u8 3 1,aL 3 [.dn,.own 5000193]],34⟩
abbrev Fk:List aO:=[(.exit 0,⟨[aM 1 1 0,aM 3 3 0],[aL 1 [ai,ai,c4 .need,c4 .entry],bx 5000193 .u8 3 1,aL 3 [.dn,.own 5000193]],34⟩)]
noncomputable def zk(y:yC.J):bR yC Fk:=
 bif(decide (y.1.2.2.2.2.1<y.1.2.2.2.1)) then
(aU y.1.2.2.1 y.1.2.2.2.2.1).bind fun a=>
(f119 (((a.name,a.kind,a.aV,()),()),())).bind fun b=>
(bY ([110,101,101,100,32]:F) b.1.1).bind fun c=>
(bY c ([10]:F)).bind fun d=>
(lR (((),d,()),y.2.2.1,((),(),()),())).bind fun e=>
 some (.inl (((),(),y.1.2.2.1,y.1.2.2.2.1,(IntKind.i64.wrap (y.1.2.2.2.2.1+(1:Int))),()),(y.2.1.1,y.2.1.2.1,y.2.1.2.2.1,y.2.1.2.2.2.1,()),e.2.1,((),(),()),()))
else
 some (.inr (((),(),()),(y.2.1.1,y.2.1.2.1,y.2.1.2.2.1,y.2.1.2.2.2.1,()),y.2.2.1,((),(),()),()))
noncomputable def F2:yC.J->Option (aD Fk):=bv zk
theorem afZ:aY U (an (codeOf Tryz.f68) 1 122) (a' yC Fk F2):=bT YA (by kernel_rfl) ag fun y=>by kernel_rfl
abbrev i68:Shape:=⟨[cC 0 [ai,ai,c4 .need,c4 .entry]],[],34⟩
abbrev WR:Shape:=⟨[ao 2],[],34⟩
noncomputable def f68(a:i68.J):Option WR.J:=
(bY ([112,97,99,107,32]:F) a.1.1.1).bind fun b=>
(bY b ([32]:F)).bind fun c=>
(bY c a.1.1.2.1).bind fun d=>
(bY d ([10]:F)).bind fun e=>
(lR (((),e,()),([]:List Int),((),(),()),())).bind fun f=>
(F2 (((),(),a.1.1.2.2.1,(a.1.1.2.2.1.length:Int),(0:Int),()),(a.1.1.1,a.1.1.2.1,a.1.1.2.2.1,a.1.1.2.2.2.1,()),f.2.1,((),(),()),())).bind fun g=>
(f120 ((g.2.1.2.2.2.1,()),())).bind fun h=>
(bY ([10]:F) h.1.1).bind fun i=>
(lR (((),i,()),g.2.2.1,((),(),()),())).bind fun j=>
 some (((strOf j.2.1),()),())
noncomputable def Ya:aH:=aP aj Tryz.f68 i68 WR [] f68
theorem aol:aG U 68 Ya:=aS YA Tryz.func68 (by kernel_rfl) (ba afZ ag) (fun y=>by kernel_rfl) fun a=>by kernel_rfl
noncomputable abbrev arP:bi:=[(55,Cv),(68,Ya),(69,X_)]
theorem asb:a_ U (bg aj arP):=bf ⟨Jp,aol,aok,⟨⟩⟩
abbrev i36:Shape:=⟨[cC 0 [ai,ai,c4 .need,c4 .entry]],[],15⟩
abbrev W5:Shape:=⟨[ao 2],[],15⟩
noncomputable def f36(a:i36.J):Option W5.J:=
(f55 (((a.1.1.1,a.1.1.2.1,a.1.1.2.2.1,a.1.1.2.2.2.1,()),()),())).bind fun b=>
 bif(!b.1.1) then
 some ((([]:F),()),())
else
(f68 (((a.1.1.1,a.1.1.2.1,a.1.1.2.2.1,a.1.1.2.2.2.1,()),()),())).bind fun c=>
(f69 ((c.1.1,()),())).bind fun d=>
(bY ([115,117,109,32]:F) d.1.1).bind fun e=>
(bY e ([10]:F)).bind fun f=>
(bY f c.1.1).bind fun g=>
 some ((g,()),())
noncomputable def KL:aH:=aP aj Tryz.f36 i36 W5 [] f36
theorem Wq:aG U 36 KL:=aS asb Tryz.func36 (by kernel_rfl) ag (fun y=>by kernel_rfl) fun a=>by kernel_rfl
noncomputable abbrev arz:bi:=[(83,Cs),(123,I9)]
theorem Yz:a_ U (bg aj arz):=bf ⟨Jn,Sm,⟨⟩⟩
abbrev Ac:Shape:=⟨[aM 1 1 0,ao 3,ae 4],[aL 1 [c4 .pack]],28⟩
abbrev G4:List aO:=[(.exit 0,⟨[ao 3],[],28⟩)]
noncomputable def AA(y:Ac.J):bR Ac G4:=
 bif(decide (y.1.2.2.1<(y.2.1.1.length:Int))) then
(aU y.2.1.1 y.1.2.2.1).bind fun a=>
(f123 (((a.name,a.aV,a.bl,a.bQ,()),()),())).bind fun b=>
(f83 (((b.1.1.length:Int),()),())).bind fun c=>
(bY y.1.2.1 c.1.1).bind fun d=>
(bY d ([10]:F)).bind fun e=>
(bY e b.1.1).bind fun f=>
 some (.inl (((),f,(IntKind.i64.wrap (y.1.2.2.1+(1:Int))),()),(y.2.1.1,()),()))
else
 some (.inr ((y.1.2.1,()),()))
noncomputable def Ho:Ac.J->Option (aD G4):=bv AA
theorem ah6:aY U (an (codeOf Tryz.f70) 1 58) (a' Ac G4 Ho):=bT Yz (by kernel_rfl) ag fun y=>by kernel_rfl
abbrev i70:Shape:=⟨[cC 0 [c4 .pack]],[],28⟩
abbrev WP:Shape:=⟨[ao 2],[],28⟩
noncomputable def f70(a:i70.J):Option WP.J:=
(Ho (((),([]:F),(0:Int),()),(a.1.1.1,()),())).bind fun b=>
 some ((b.1.1,()),())
noncomputable def Cu:aH:=aP aj Tryz.f70 i70 WP [] f70
theorem z70:aG U 70 Cu:=aS Yz Tryz.func70 (by kernel_rfl) (ba ah6 ag) (fun y=>by kernel_rfl) fun a=>by kernel_rfl
noncomputable abbrev arO:bi:=[(30,Cx),(70,Cu)]
theorem asa:a_ U (bg aj arO):=bf ⟨Jr,z70,⟨⟩⟩
abbrev i37:Shape:=⟨[cC 0 [c4 .pack]],[],8⟩
abbrev W4:Shape:=⟨[ao 2],[],8⟩
noncomputable def f37(a:i37.J):Option W4.J:=
(f30 (((a.1.1.1,()),()),())).bind fun b=>
 bif(!b.1.1) then
 some ((([]:F),()),())
else
(f70 (((a.1.1.1,()),()),())).bind fun c=>
 some ((c.1.1,()),())
noncomputable def ark:aH:=aP aj Tryz.f37 i37 W4 [] f37
theorem z37:aG U 37 ark:=aS asa Tryz.func37 (by kernel_rfl) ag (fun y=>by kernel_rfl) fun a=>by kernel_rfl
def dE(k:Int):F:=bif k==1 then [61] else bif k==2 then [62,61] else bif k==3 then [60] else []
theorem Nq(k:Int):(dE k).length<=2:=by unfold dE;cases k==1<;>cases k==2<;>cases k==3<;>decide
def cH(n:bB):F:=n.name++dE n.kind++n.aV
theorem Oa(k:Int):f225 ((k,()),())=some ((dE k,()),()):=by
 simp only[f225,dE];cases k==1<;>cases k==2<;>cases k==3<;>rfl
theorem EC{n:bB}(hb:wJ n):(cH n).length<=4194306:=by
 have:=Nq n.kind;have h1:=hb.1;have h2:=hb.2;unfold cH;simp;omega
theorem O_(n:bB)(hb:wJ n):f218 (((n.name,(n.kind,(n.aV,()))),()),())=some ((cH n,()),()):=by
 have:=Nq n.kind;have h1:=hb.1;have h2:=hb.2;have apQ:=Oa n.kind;simp only[f218,apQ,Option.bind_some];rw[dA (by omega),Option.bind_some,dA (by simp;omega)]
 rfl
theorem aa8{n:bB}(h:du n=true)(h1:(n.kind==1)=false)(h2:(n.kind==2)=false)(h3:(n.kind==3)=false):n.aV=[]:=by
 unfold du at h;simp only[Bool.and_eq_true,Bool.or_eq_true] at h;rcases h.2 with h|h
 ·exact eq_of_beq h.2
 ·have:=rN h.1;simp at h1 h2 h3;omega
theorem ab5(n:bB)(hb:wJ n)(fv:du n=true):f119 (((n.name,(n.kind,(n.aV,()))),()),())=some ((cH n,()),()):=by
 have h0:=xy (((n.name,(n.kind,(n.aV,()))),()),()) hb.1 hb.2;have h0:f102 (((n.name,(n.kind,(n.aV,()))),()),())=some ((du n,()),()):=h0;have h1:=hb.1;have h2:=hb.2;simp only[f119,h0,fv,Option.bind_some,Bool.not_true,cond_false,cH,dE];cases aB:(n.kind==1) with
 |true=>
  simp only[cond_true];rw[dA (by simp;omega),Option.bind_some,dA (by simp;omega)]
  rfl
 |false=>
  cases aA:(n.kind==2) with
  |true=>
   simp only[cond_true,cond_false];rw[dA (by simp;omega),Option.bind_some,dA (by simp;omega)]
   rfl
  |false=>
   cases bC:(n.kind==3) with
   |true=>
    simp only[cond_true,cond_false];rw[dA (by simp;omega),Option.bind_some,dA (by simp;omega)]
    rfl
   |false=>simp only[cond_false,aa8 fv aB aA bC,List.append_nil]
def cG(n:bB):F:=[110,101,101,100,32]++cH n++[10]
theorem acV{n:bB}(hb:wJ n):(cG n).length<=4194312:=by
 have:=EC hb;unfold cG;simp;omega
def ii(p:aW):F:=[112,97,99,107,32]++p.name++[32]++p.aV++[10]
def dj(p:aW):F:=ii p++p.bl.flatMap cG++[10]++dd p.bQ
def bA(p:aW):F:=[115,117,109,32]++oW (dj p)++[10]++dj p
def dv(s:F):F:=Lib.itoa (s.length:Int)++[10]++s
def cN(ps:List aW):F:=ps.flatMap fun p=>dv (bA p)
theorem nj{p:aW}(h:cB p=true):iy p.name=true/\d_ p.aV=true/\(∀n,n∈p.bl->du n=true)/\p.bl.length<=6/\jA [] (p.name::p.bl.map (·.name))=false/\dL p.bQ=true:=by
 unfold cB at h;simp only[Bool.and_eq_true] at h;obtain⟨⟨⟨h1,h2⟩,h3⟩,aw⟩:=h;unfold p2 at h3;simp only[Bool.and_eq_true,decide_eq_true_eq,List.all_eq_true,Bool.not_eq_true'] at h3;exact⟨h1,h2,h3.1.1,h3.1.2,h3.2,aw⟩
theorem rF{t:List az}(h:dL t=true):∀e,e∈t->ol e:=fun e he=>E9 (t_ h e he)
theorem tV{ns:List bB}(hb:s_ ns)(hl:ns.length<=6)(i:Nat):((ns.take i).flatMap cG).length<=25165872:=by
 have h1:=pW (f:=cG) (xs:=ns.take i) (n:=4194312) fun n hn=>acV (hb.2 n (pL hn))
 have h2:=(List.take_sublist i ns).length_le;exact Nat.le_trans h1 (by omega)
theorem D'{p:aW}(hb:kc p)(hk:cB p=true):(dj p).length<=100663296:=by
 obtain⟨_,_,_,cp,_,aq⟩:=nj hk;have h1:=tV hb.2.2.1 cp p.bl.length;rw[List.take_length] at h1;have h2:=xn (rF aq) hb.2.2.2 (jp aq);have h3:=hb.1;have aw:=hb.2.1;unfold dj ii;generalize p.bl.flatMap cG=A at h1 ⊢;generalize dd p.bQ=bh at h2 ⊢;simp;omega
theorem EB{p:aW}(hb:kc p)(hk:cB p=true):(bA p).length<=100663400:=by
 have:=D' hb hk;unfold bA;generalize dj p=bh at this ⊢;simp[Ew];omega
theorem adM(p:aW)(hb:kc p)(hk:cB p=true):f172 (((p.name,(p.aV,(p.bl,(p.bQ,())))),()),())=some ((dj p,()),()):=by
 obtain⟨_,_,hn,cp,_,aq⟩:=nj hk;have h3:=hb.1;have aw:=hb.2.1;have CG:=Ds p.bQ (rF aq) hb.2.2.2 (jp aq);have aqc:(ii p).length<=4194320:=by unfold ii;simp;omega
 have aB:Gc (((),(ii p,((0:Int),()))),((p.name,(p.aV,(p.bl,(p.bQ,())))),()))=some (((),(ii p++p.bl.flatMap cG,())),((p.name,(p.aV,(p.bl,(p.bQ,())))),())):=by
  have:=fx (g:=zu) (fun i=>(((),(ii p++(p.bl.take i).flatMap cG,((i:Int),()))),((p.name,(p.aV,(p.bl,(p.bQ,())))),()))) p.bl.length (b:=(((),(ii p++p.bl.flatMap cG,())),((p.name,(p.aV,(p.bl,(p.bQ,())))),()))) (fun i hi=>?_) ?_ p.bl.length 0 (by omega)
  ·rw[List.take_zero,List.flatMap_nil,List.append_nil] at this;exact this
  ·obtain⟨n,he⟩:∃n,p.bl[i]? =some n:=⟨p.bl[i],List.getElem?_eq_getElem hi⟩;have ec:=List.mem_of_getElem? he;have im:=tV hb.2.2.1 cp i;have gX:=EC (hb.2.2.1.2 n ec);simp only[zu,b8 hi,cond_true,bX,he,Option.bind_some,O_ n (hb.2.2.1.2 n ec),mo cG he,bS (i:=i) (by unfold ap;omega)]
   generalize List.flatMap cG (List.take i p.bl)=A at im ⊢;rw[dA (by simp;omega),Option.bind_some,dA (by simp;omega),Option.bind_some,dA (by simp;omega),Option.bind_some]
   simp only[cG,List.append_assoc]
  ·simp only[zu,dh,cond_false,List.take_length]
 have im:=tV hb.2.2.1 cp p.bl.length;rw[List.take_length] at im;have h2:=xn (rF aq) hb.2.2.2 (jp aq);have bP:ii p=[112,97,99,107,32]++p.name++[32]++p.aV++[10]:=rfl;simp only[f172];repeat(rw[dA (by simp;omega),Option.bind_some])
 rw[<-bP,aB];simp only[Option.bind_some,dj];generalize p.bl.flatMap cG=A at im ⊢;rw[dA (by simp;omega),Option.bind_some,CG,Option.bind_some]
 generalize dd p.bQ=bh at h2 ⊢;rw[dA (by simp;omega)]
 rfl
theorem Fh(p:aW)(hb:kc p)(hk:cB p=true):f123 (((p.name,(p.aV,(p.bl,(p.bQ,())))),()),())=some ((bA p,()),()):=by
 have hl:=D' hb hk;have h1:=aje (dj p) (by unfold pw;omega)
 have hs:=Ew (dj p);simp only[f123,adM p hb hk,h1,Option.bind_some,bA];generalize oW (dj p)=S at hs ⊢;generalize dj p=bh at hl ⊢;rw[dA (by simp;omega),Option.bind_some,dA (by simp;omega),Option.bind_some,dA (by simp;omega)]
 rfl
theorem aaA(p:aW)(hb:kc p)(hk:cB p=true):f68 (((p.name,(p.aV,(p.bl,(p.bQ,())))),()),())=some ((dj p,()),()):=by
 obtain⟨_,_,hn,cp,_,aq⟩:=nj hk;have h3:=hb.1;have aw:=hb.2.1;have CG:=_J p.bQ hb.2.2.2;rw[aq] at CG;have aqc:(ii p).length<=4194320:=by unfold ii;simp;omega
 have aB:F2 (((),((),(p.bl,((p.bl.length:Int),((0:Int),()))))),((p.name,(p.aV,(p.bl,(p.bQ,())))),(bytesOf (ii p),(((),((),())),()))))=some (((),((),())),((p.name,(p.aV,(p.bl,(p.bQ,())))),(bytesOf (ii p++p.bl.flatMap cG),(((),((),())),())))):=by
  have:=fx (g:=zk) (fun i=>(((),((),(p.bl,((p.bl.length:Int),((i:Int),()))))),((p.name,(p.aV,(p.bl,(p.bQ,())))),(bytesOf (ii p++(p.bl.take i).flatMap cG),(((),((),())),()))))) p.bl.length (b:=(((),((),())),((p.name,(p.aV,(p.bl,(p.bQ,())))),(bytesOf (ii p++p.bl.flatMap cG),(((),((),())),()))))) (fun i hi=>?_) ?_ p.bl.length 0 (by omega)
  ·rw[List.take_zero,List.flatMap_nil,List.append_nil] at this;exact this
  ·obtain⟨n,he⟩:∃n,p.bl[i]? =some n:=⟨p.bl[i],List.getElem?_eq_getElem hi⟩;have ec:=List.mem_of_getElem? he;have im:=tV hb.2.2.1 cp i;have gX:=EC (hb.2.2.1.2 n ec);simp only[zk,b8 hi,cond_true,bX,he,Option.bind_some,ab5 n (hb.2.2.1.2 n ec) (hn n ec),mo cG he,bS (i:=i) (by unfold ap;omega)]
   generalize List.flatMap cG (List.take i p.bl)=A at im ⊢;rw[dA (by simp;omega),Option.bind_some,dA (by simp;omega),Option.bind_some,oD _ _ (by unfold ap;rw[iT];simp;omega),Option.bind_some,<-List.append_assoc,oo (ii p++A)]
   rfl
  ·simp only[zk,dh,cond_false,List.take_length]
 have im:=tV hb.2.2.1 cp p.bl.length;rw[List.take_length] at im;have h2:=xn (rF aq) hb.2.2.2 (jp aq);have bP:ii p=[112,97,99,107,32]++p.name++[32]++p.aV++[10]:=rfl;simp only[f68];repeat(rw[dA (by simp;omega),Option.bind_some])
 rw[<-bP,oD _ _ (by unfold ap;simp;omega),Option.bind_some]
 simp only[List.nil_append,aB,Option.bind_some,CG,cond_true,dj];generalize p.bl.flatMap cG=A at im ⊢;generalize dd p.bQ=bh at h2 ⊢;rw[dA (by simp;omega),Option.bind_some,oD _ _ (by unfold ap;rw[iT];simp;omega),Option.bind_some]
 rw[<-oo,tX,List.append_assoc _ [10] bh]
theorem Db(p:aW)(hb:kc p):f36 (((p.name,(p.aV,(p.bl,(p.bQ,())))),()),())=some ((bif cB p then bA p else [],()),()):=by
 have h0:=xx (((p.name,(p.aV,(p.bl,(p.bQ,())))),()),()) hb;have h0:f55 (((p.name,(p.aV,(p.bl,(p.bQ,())))),()),())=some ((cB p,()),()):=h0;simp only[f36,h0,Option.bind_some];cases hk:cB p with
 |false=>rfl
 |true=>
  have hl:=D' hb hk;have h1:=ahH (dj p) (by unfold pw;omega)
  have hs:=Ew (dj p);simp only[Bool.not_true,cond_false,cond_true,aaA p hb hk,h1,Option.bind_some,bA];generalize oW (dj p)=S at hs ⊢;generalize dj p=bh at hl ⊢;rw[dA (by simp;omega),Option.bind_some,dA (by simp;omega),Option.bind_some,dA (by simp;omega)]
  rfl
theorem DG{p:aW}(hb:kc p)(hk:cB p=true):(dv (bA p)).length<=100663500:=by
 have h1:=EB hb hk;have h2:=k2 (bA p).length (by omega)
 unfold dv;simp;omega
theorem ZJ{ps:List aW}(hb:fS ps)(hk:∀p,p∈ps->cB p=true)(i:Nat):((ps.take i).flatMap fun p=>dv (bA p)).length<=211106660352000:=by
 have h1:=pW (f:=fun p=>dv (bA p)) (xs:=ps.take i) (n:=100663500) fun p hp=>DG (hb.2 p (pL hp)) (hk p (pL hp))
 have h2:=(List.take_sublist i ps).length_le;have h3:ps.length<=2097152:=hb.1;have aw:(ps.take i).length*100663500<=2097152*100663500:=Nat.mul_le_mul_right _ (by omega)
 omega
theorem Fg(ps:List aW)(hb:fS ps)(hk:∀p,p∈ps->cB p=true):f70 (((ps,()),()),())=some ((cN ps,()),()):=by
 have aB:Ho (((),(([]:F),((0:Int),()))),((ps,()),()))=some ((cN ps,()),()):=by
  refine fx (g:=AA) (fun i=>(((),((ps.take i).flatMap (fun p=>dv (bA p)),((i:Int),()))),((ps,()),()))) ps.length (fun i hi=>?_) ?_ ps.length 0 (by omega)
  ·obtain⟨p,he⟩:∃p,ps[i]? =some p:=⟨ps[i],List.getElem?_eq_getElem hi⟩;have ec:=List.mem_of_getElem? he;have im:=ZJ hb hk i;have gX:=EB (hb.2 p ec) (hk p ec);have h2:=k2 (bA p).length (by omega)
   have n5:=hb.1;simp only[AA,b8 hi,cond_true,bX,he,Option.bind_some,Fh p (hb.2 p ec) (hk p ec),yz (bA p).length (by omega),mo (fun p=>dv (bA p)) he,bS (i:=i) (by unfold ap;omega)]
   generalize List.flatMap (fun p=>dv (bA p)) (List.take i ps)=A at im ⊢
   rw[dA (by omega),Option.bind_some,dA (by simp;omega),Option.bind_some,dA (by simp;omega),Option.bind_some]
   simp only[dv,List.append_assoc]
  ·simp only[AA,dh,cond_false,List.take_length];rfl
 simp only[f70,aB,Option.bind_some]
theorem nf{ps:List aW}(h:fM ps=true):(∀p,p∈ps->cB p=true)/\ps.length<=5:=by
 unfold fM at h;simp only[Bool.and_eq_true,decide_eq_true_eq,List.all_eq_true] at h;exact⟨h.1.1.1.1,h.1.1.2⟩
def b7(c:UInt8)(s:F):Prop:=∀x,x∈s->x≠c
theorem b7.cT{c:UInt8}{s t:F}(h:b7 c s)(k:b7 c t):b7 c (s++t):=fun x hx=>(List.mem_append.1 hx).elim (h x) (k x)
theorem b7.nil(c:UInt8):b7 c []:=fun x hx=>by cases hx
theorem b7.tail{c b:UInt8}{s:F}(h:b7 c (b::s)):b7 c s:=fun x hx=>h x (List.mem_cons_of_mem _ hx)
theorem b7.head{c b:UInt8}{s:F}(h:b7 c (b::s)):(b==c)=false:=by
 have:=h b List.mem_cons_self;simpa using this
theorem b7.lit{c:UInt8}{s:F}(h:s.all (fun x=>!(x==c))=true):b7 c s:=fun x hx=>by
 have:=List.all_eq_true.1 h x hx;simpa using this
theorem No{c:UInt8}:∀{s:F},b7 c s->bJ c s=[s]:=by
 intro s;induction s with
 |nil=>intro _;rfl
 |cons b r ih=>
  intro h;unfold bJ;rw[h.head,ih h.tail];rfl
theorem Mh(c b:UInt8)(r:F):bJ c (b::r)=bif b==c then []::bJ c r else match bJ c r with|x::xs=>(b::x)::xs|[]=>[[b]]:=rfl
theorem rz{c:UInt8}{b:F}:∀{a:F},b7 c a->bJ c (a++c::b)=a::bJ c b:=by
 intro a;induction a with
 |nil=>intro _;show bJ c (c::b)=_;rw[Mh,beq_self_eq_true];rfl
 |cons x r ih=>
  intro h;show bJ c (x::(r++c::b))=_;rw[Mh,h.head,ih h.tail];rfl
theorem MJ{c x:UInt8}:∀{s:F},x∈s->x≠c->∃p,p∈bJ c s/\x∈p:=by
 intro s;induction s with
 |nil=>intro h;cases h
 |cons b r ih=>
  intro h hx;unfold bJ;cases hb:b==c with
  |true=>
   have hb:=eq_of_beq hb;rcases List.mem_cons.1 h with rfl|h
   ·exact absurd hb hx
   ·obtain⟨p,h1,h2⟩:=ih h hx;exact⟨p,List.mem_cons_of_mem _ h1,h2⟩
  |false=>
   simp only[cond_false];have hne:=pG c r;split
   ·rename_i y bd hy;rcases List.mem_cons.1 h with rfl|h
    ·exact⟨_,List.mem_cons_self,List.mem_cons_self⟩
    ·obtain⟨p,h1,h2⟩:=ih h hx;rw[hy] at h1;rcases List.mem_cons.1 h1 with rfl|h1
     ·exact⟨_,List.mem_cons_self,List.mem_cons_of_mem _ h2⟩
     ·exact⟨p,List.mem_cons_of_mem _ h1,h2⟩
   ·rename_i hy;exact absurd hy hne
def dk(c:UInt8):F->Option (F×F)
 |[]=>none
 |b::r=>bif b==c then some ([],r) else match dk c r with
  |some (x,y)=>some (b::x,y)
  |none=>none
theorem ahd{c:UInt8}:∀{s:F},b7 c s->dk c s=none:=by
 intro s;induction s with
 |nil=>intro _;rfl
 |cons b r ih=>intro h;simp only[dk,h.head,cond_false,ih h.tail]
theorem rS{c:UInt8}{b:F}:∀{a:F},b7 c a->dk c (a++c::b)=some (a,b):=by
 intro a;induction a with
 |nil=>intro _;simp[dk]
 |cons x r ih=>intro h;show dk c (x::(r++c::b))=_;simp only[dk,h.head,cond_false,ih h.tail]
theorem iV{c:UInt8}:∀{s x y:F},dk c s=some (x,y)->s=x++c::y/\b7 c x:=by
 intro s;induction s with
 |nil=>intro x y h;cases h
 |cons b r ih=>
  intro x y h;simp only[dk] at h;cases hb:b==c with
  |true=>
   rw[hb] at h;simp only[cond_true,Option.some.injEq,Prod.mk.injEq] at h;obtain⟨rfl,rfl⟩:=h;exact⟨by rw[eq_of_beq hb];rfl,b7.nil c⟩
  |false=>
   rw[hb] at h;simp only[cond_false] at h;split at h
   ·rename_i h' y' hc;cases h;obtain⟨h1,h2⟩:=ih hc;refine⟨by rw[h1];rfl,fun z hz=>?_⟩
    rcases List.mem_cons.1 hz with rfl|hz
    ·simpa using hb
    ·exact h2 z hz
   ·cases h
theorem adt{c:UInt8}:∀{s:F},dk c s=none->b7 c s:=by
 intro s;induction s with
 |nil=>intro _;exact b7.nil c
 |cons b r ih=>
  intro h;simp only[dk] at h;cases hb:b==c with
  |true=>rw[hb] at h;cases h
  |false=>
   rw[hb] at h;simp only[cond_false] at h;split at h
   ·cases h
   ·rename_i hc;intro z hz;rcases List.mem_cons.1 hz with rfl|hz
    ·simpa using hb
    ·exact ih hc z hz
theorem P8(c:UInt8):∀s:F,Lib.indexByte s c=match dk c s with|some (x,_)=>(x.length:Int)|none=>-1:=by
 intro s;induction s with
 |nil=>rfl
 |cons b r ih=>
  simp only[dk];unfold Lib.indexByte;cases hb:b==c with
  |true=>simp
  |false=>
   rw[ih];simp only[cond_false];cases hc:dk c r with
   |none=>simp
   |some q=>obtain⟨x,y⟩:=q;simp
theorem MK(c:UInt8)(s:F):bJ c s=match dk c s with|some (x,y)=>x::bJ c y|none=>[s]:=by
 cases h:dk c s with
 |none=>exact No (adt h)
 |some q=>
  obtain⟨x,y⟩:=q;obtain⟨h1,h2⟩:=iV h;show bJ c s=x::bJ c y;rw[h1];exact rz h2
theorem C0{s:F}(h:iy s=true):∀x,x∈s->(97<=x.toNat/\x.toNat<=122)\/(48<=x.toNat/\x.toNat<=57):=by
 cases s with
 |nil=>cases h
 |cons b r=>
  rw[Mo] at h;simp only[Bool.and_eq_true] at h;intro x hx;have:=List.all_eq_true.1 h.1.2 x hx;simp only[iF,cI,Bool.or_eq_true,Bool.and_eq_true,decide_eq_true_eq] at this;omega
theorem NH{s:F}(h:iy s=true){c:UInt8}(hc:c.toNat<48\/(57<c.toNat/\c.toNat<97)):b7 c s:=fun x hx e=>by
 have:=C0 h x hx;rw[e] at this;omega
theorem Z5{s:F}(h:d_ s=true):∀x,x∈s->x=46\/(48<=x.toNat/\x.toNat<=57):=by
 intro x hx;by_cases he:x=46
 ·exact .inl he
 ·obtain⟨p,h1,h2⟩:=MJ hx he;unfold d_ hX at h;simp only[Bool.and_eq_true] at h;have:=List.all_eq_true.1 h.1 p h1;unfold fk at this;simp only[Bool.and_eq_true] at this;have:=ix (List.all_eq_true.1 this.1.1.1.1 x h2);exact .inr (by omega)
theorem M5{s:F}(h:d_ s=true){c:UInt8}(hc:c.toNat<48\/57<c.toNat)(Z:c≠46):b7 c s:=fun x hx e=>by
 rcases Z5 h x hx with h1|h1
 ·exact Z (e▸h1)
 ·rw[e] at h1;omega
theorem NI{s:F}(h:f_ s=true){c:UInt8}(hc:jR c.toNat=false)(Z:c≠47):b7 c s:=fun x hx e=>by
 subst e;obtain⟨p,h1,h2⟩:=MJ hx Z;unfold f_ at h;simp only[Bool.and_eq_true] at h;have:=List.all_eq_true.1 h.1 p h1;unfold jX at this;simp only[Bool.and_eq_true] at this;have:=List.all_eq_true.1 this.1.1.1 x h2;rw[hc] at this;cases this
theorem GO:∀n:Nat,(Lib.decDigits n).all cI=true:=by
 intro n;induction n using Nat.strongRecOn with
 |_ n ih=>
  have Z:∀m:Nat,m<10->cI (UInt8.ofNat (48+m))=true:=fun m hm=>by
   unfold cI;have:(UInt8.ofNat (48+m)).toNat=48+m:=by rw[UInt8.toNat_ofNat'];omega
   rw[this];simp;omega
  rw[Lib.decDigits];split
  ·rename_i h;show(cI _&&true)=true;rw[Z n h];rfl
  ·rename_i h;rw[List.all_append,ih (n/10) (by omega)]
   show(true&&(cI _&&true))=true;rw[Z (n%10) (by omega)];rfl
theorem Rf(n:Nat):Lib.decDigits n≠[]:=by
 rw[Lib.decDigits];split<;>simp
theorem GN:∀n:Nat,c9 (Lib.decDigits n)=(n:Int):=by
 intro n;induction n using Nat.strongRecOn with
 |_ n ih=>
  have Z:∀m:Nat,m<10->((UInt8.ofNat (48+m)).toNat:Int)-48=(m:Int):=fun m hm=>by
   have:(UInt8.ofNat (48+m)).toNat=48+m:=by rw[UInt8.toNat_ofNat'];omega
   rw[this];omega
  rw[Lib.decDigits];split
  ·rename_i h;show dU 0 _=_;unfold dU;rw[Z n h];omega
  ·rename_i h;have:=ih (n/10) (by omega)
   unfold c9 at this ⊢;rw[List.foldl_append,this];show dU _ _=_;unfold dU;rw[Z (n%10) (by omega)];omega
theorem ads:∀n:Nat,1<=n->∃b r,Lib.decDigits n=b::r/\((b.toNat:Int)==48)=false:=by
 intro n;induction n using Nat.strongRecOn with
 |_ n ih=>
  intro hn;rw[Lib.decDigits];split
  ·rename_i h;refine⟨_,[],rfl,?_⟩;have:(UInt8.ofNat (48+n)).toNat=48+n:=by rw[UInt8.toNat_ofNat'];omega
   rw[this,beq_eq_false_iff_ne];omega
  ·rename_i h;obtain⟨b,r,h1,h2⟩:=ih (n/10) (by omega) (by omega)
   rw[h1];exact⟨b,_,rfl,h2⟩
theorem O2(n:Nat):hY (Lib.decDigits n)=false:=by
 by_cases h:n<10
 ·rw[Lib.decDigits,dif_pos h];rfl
 ·obtain⟨b,r,h1,h2⟩:=ads n (by omega)
  rw[h1];cases r with
  |nil=>rfl
  |cons x r=>exact h2
theorem E':∀(k n:Nat),n<10^(k+1)->(Lib.decDigits n).length<=k+1:=by
 intro k;induction k with
 |zero=>intro n h;rw[Lib.decDigits,dif_pos (by omega)];simp
 |succ k ih=>
  intro n h;rw[Lib.decDigits];split
  ·simp
  ·have:=ih (n/10) (by rw[Nat.pow_succ] at h;omega)
   simp;omega
theorem aiI(n:Nat){c:UInt8}(hc:c.toNat<48\/57<c.toNat):b7 c (Lib.decDigits n):=fun x hx e=>by
 have:=ix (List.all_eq_true.1 (GO n) x hx);rw[e] at this;omega
theorem P6(n:Nat){c:UInt8}(hc:c.toNat<48\/57<c.toNat):b7 c (Lib.itoa (n:Int)):=by rw[pP];exact aiI n hc
theorem ag8:∀k:Nat,k<16->jb k≠10/\jb k≠32:=by decide
theorem P9(w:Int):b7 10 (fE w):=fun x hx=>by
 simp only[fE,List.mem_cons,List.not_mem_nil,or_false] at hx;rcases hx with rfl|rfl|rfl|rfl|rfl|rfl|rfl|rfl<;>exact(ag8 _ (Nat.mod_lt _ (by decide))).1
theorem Pv(s:F):b7 10 (oW s):=(P9 _).cT (P9 _)
def hI:F:=[100,105,114]
def hD:F:=[108,105,110,107]
def hZ:F:=[102,105,108,101]
def lL(e:az):List F:=bif e.kind==1 then [hI,Lib.itoa e.mode,e.path] else bif e.kind==3 then [hD,e.path,e.text] else [hZ,Lib.itoa e.mode,e.path,Lib.itoa (e.text.length:Int)]
def k_:List F->F
 |[]=>[]
 |[x]=>x
 |x::y::r=>x++32::k_ (y::r)
def oQ(e:az):F:=k_ (lL e)
theorem MT:∀{ws:List F},ws≠[]->(∀w,w∈ws->b7 32 w)->bJ 32 (k_ ws)=ws:=by
 intro ws;induction ws with
 |nil=>intro h;exact absurd rfl h
 |cons x r ih=>
  intro _ h;cases r with
  |nil=>exact No (h x List.mem_cons_self)
  |cons y r=>
   show bJ 32 (x++32::k_ (y::r))=_;rw[rz (h x List.mem_cons_self),ih (by simp) fun w hw=>h w (List.mem_cons_of_mem _ hw)]
theorem P5{c:UInt8}(hc:c≠32):∀{ws:List F},(∀w,w∈ws->b7 c w)->b7 c (k_ ws):=by
 intro ws;induction ws with
 |nil=>intro _;exact b7.nil c
 |cons x r ih=>
  intro h;cases r with
  |nil=>exact h x List.mem_cons_self
  |cons y r=>
   refine(h x List.mem_cons_self).cT fun z hz=>?_
   rcases List.mem_cons.1 hz with rfl|hz
   ·exact fun e=>hc e.symm
   ·exact ih (fun w hw=>h w (List.mem_cons_of_mem _ hw)) z hz
theorem abp{e:az}(h:eL e=true):f_ e.path=true:=by
 unfold eL at h;simp only[Bool.and_eq_true] at h;exact h.1
theorem Dn{e:az}(h:eL e=true)(hk:e.kind=3):f_ e.text=true/\e.mode=0:=by
 unfold eL at h;rw[hk] at h;simp only[Bool.and_eq_true] at h;have h2:((e.mode==0)&&f_ e.text)=true:=h.2;simp only[Bool.and_eq_true,beq_iff_eq] at h2;exact⟨h2.2,h2.1⟩
theorem NZ{e:az}(h:eL e=true)(hk:e.kind=1):e.text=[]:=by
 unfold eL at h;rw[hk] at h;simp only[Bool.and_eq_true] at h;have h2:(within e.mode 0 7&&e.text==[])=true:=h.2;simp only[Bool.and_eq_true] at h2;exact eq_of_beq h2.2
theorem MX{e:az}(h:eL e=true)(hk:e.kind=2):nC e.text=true:=by
 unfold eL at h;rw[hk] at h;simp only[Bool.and_eq_true] at h;have h2:(within e.mode 0 7&&nC e.text)=true:=h.2;simp only[Bool.and_eq_true] at h2;exact h2.2
theorem EF{e:az}(h:eL e=true):∃n:Nat,e.mode=n/\n<=7:=by
 have:=E9 h;obtain⟨n,hn⟩:=Int.eq_ofNat_of_zero_le this.1;exact⟨n,hn,by have:=this.2;omega⟩
theorem Ak{s:F}(h:f_ s=true):b7 32 s:=NI h (by decide) (by decide)
theorem Al{s:F}(h:f_ s=true):b7 10 s:=NI h (by decide) (by decide)
theorem Hv(n:Nat):b7 32 (Lib.itoa (n:Int)):=P6 n (by decide)
theorem Ao(n:Nat):b7 10 (Lib.itoa (n:Int)):=P6 n (by decide)
theorem Dq{e:az}(h:eL e=true):(∀w,w∈lL e->b7 32 w)/\∀w,w∈lL e->b7 10 w:=by
 obtain⟨n,hn,_⟩:=EF h;have hp:=abp h;unfold lL;rw[hn];rcases ub h with hk|hk|hk<;>rw[hk]
 ·refine⟨fun w hw=>?_,fun w hw=>?_⟩<;>have hw:w∈[hI,Lib.itoa (n:Int),e.path]:=hw<;>simp only[List.mem_cons,List.not_mem_nil,or_false] at hw<;>rcases hw with rfl|rfl|rfl
  ·exact b7.lit (by decide)
  ·exact Hv n
  ·exact Ak hp
  ·exact b7.lit (by decide)
  ·exact Ao n
  ·exact Al hp
 ·refine⟨fun w hw=>?_,fun w hw=>?_⟩<;>have hw:w∈[hZ,Lib.itoa (n:Int),e.path,Lib.itoa (e.text.length:Int)]:=hw<;>simp only[List.mem_cons,List.not_mem_nil,or_false] at hw<;>rcases hw with rfl|rfl|rfl|rfl
  ·exact b7.lit (by decide)
  ·exact Hv n
  ·exact Ak hp
  ·exact Hv _
  ·exact b7.lit (by decide)
  ·exact Ao n
  ·exact Al hp
  ·exact Ao _
 ·have aq:=(Dn h hk).1;refine⟨fun w hw=>?_,fun w hw=>?_⟩<;>have hw:w∈[hD,e.path,e.text]:=hw<;>simp only[List.mem_cons,List.not_mem_nil,or_false] at hw<;>rcases hw with rfl|rfl|rfl
  ·exact b7.lit (by decide)
  ·exact Ak hp
  ·exact Ak aq
  ·exact b7.lit (by decide)
  ·exact Al hp
  ·exact Al aq
theorem ae0{e:az}(h:eL e=true):b7 10 (oQ e):=P5 (by decide) (Dq h).2
def u_(e:az)(r:F):F:=bif e.kind==2 then e.text++10::r else r
theorem aeZ{e:az}(h:eL e=true)(r:F):ea e++r=oQ e++10::u_ e r:=by
 unfold ea oQ lL u_;rcases ub h with hk|hk|hk<;>rw[hk]
 ·simp[k_,hI]
 ·simp[k_,hZ]
 ·simp[k_,hD]
theorem NO{e:az}(h:eL e=true)(r:F):dk 10 (ea e++r)=some (oQ e,u_ e r):=by
 rw[aeZ h];exact rS (ae0 h)
def ig:F:=[112,97,99,107]
def fC:F:=[110,101,101,100]
def dP(p:aW):F:=k_ [ig,p.name,p.aV]
theorem Sv{s:F}(h:iy s=true):b7 32 s:=NH h (by decide)
theorem Sw{s:F}(h:iy s=true):b7 10 s:=NH h (by decide)
theorem Sn{s:F}(h:d_ s=true):b7 32 s:=M5 h (by decide) (by decide)
theorem So{s:F}(h:d_ s=true):b7 10 s:=M5 h (by decide) (by decide)
theorem C9{p:aW}(h:cB p=true):bJ 32 (dP p)=[ig,p.name,p.aV]:=by
 obtain⟨h1,h2,_⟩:=nj h;refine MT (by simp) fun w hw=>?_
 simp only[List.mem_cons,List.not_mem_nil,or_false] at hw;rcases hw with rfl|rfl|rfl
 ·exact b7.lit (by decide)
 ·exact Sv h1
 ·exact Sn h2
theorem OU{p:aW}(h:cB p=true):b7 10 (dP p):=by
 obtain⟨h1,h2,_⟩:=nj h;refine P5 (by decide) fun w hw=>?_
 simp only[List.mem_cons,List.not_mem_nil,or_false] at hw;rcases hw with rfl|rfl|rfl
 ·exact b7.lit (by decide)
 ·exact Sw h1
 ·exact So h2
def iA(p:aW):F:=p.bl.flatMap cG++10::dd p.bQ
theorem uq(p:aW):dj p=dP p++10::iA p:=by
 unfold dj ii dP iA;simp[k_,ig]
theorem N7{p:aW}(h:cB p=true):dk 10 (dj p)=some (dP p,iA p):=by rw[uq];exact rS (OU h)
def eF(p:aW):F:=[115,117,109,32]++oW (dj p)
theorem uz(p:aW):bA p=eF p++10::dj p:=by unfold bA eF;simp
theorem aeO(p:aW):dk 10 (bA p)=some (eF p,dj p):=by
 rw[uz];exact rS ((b7.lit (by decide)).cT (Pv _))
theorem xb{n:bB}(h:du n=true):iy n.name=true/\((n.kind=0/\n.aV=[])\/((n.kind=1\/n.kind=2\/n.kind=3)/\d_ n.aV=true)):=by
 unfold du at h;simp only[Bool.and_eq_true,Bool.or_eq_true] at h;refine⟨h.1,?_⟩;rcases h.2 with h2|h2
 ·exact .inl ⟨eq_of_beq h2.1,eq_of_beq h2.2⟩
 ·exact .inr ⟨by have:=rN h2.1;omega,h2.2⟩
theorem PP{n:bB}(h:du n=true):b7 10 (cH n):=by
 obtain⟨h1,h2⟩:=xb h;have hs:b7 10 (dE n.kind):=by unfold dE;cases n.kind==1<;>cases n.kind==2<;>cases n.kind==3<;>exact b7.lit (by decide)
 refine((Sw h1).cT hs).cT ?_
 rcases h2 with⟨_,h2⟩|⟨_,h2⟩
 ·rw[h2];exact b7.nil _
 ·exact So h2
theorem acW{n:bB}(h:du n=true)(r:F):dk 10 (cG n++r)=some (fC++32::cH n,r):=by
 have:cG n++r=(fC++32::cH n)++10::r:=by unfold cG fC;simp
 rw[this];refine rS ((b7.lit (by decide)).cT fun z hz=>?_)
 rcases List.mem_cons.1 hz with rfl|hz
 ·decide
 ·exact PP h z hz
theorem He(r:F):dk 10 (10::r)=some ([],r):=by simp[dk]
theorem acU{n:bB}{ns:List bB}{r:F}(h:du n=true):dk 10 ((n::ns).flatMap cG++r)=some (fC++32::cH n,ns.flatMap cG++r):=by
 rw[List.flatMap_cons,List.append_assoc];exact acW h _
theorem Np(s r:F):dk 10 (dv s++r)=some (Lib.itoa (s.length:Int),s++r):=by
 have:dv s++r=Lib.itoa (s.length:Int)++10::(s++r):=by unfold dv;simp
 rw[this];exact rS (Ao _)
def e8(m:Int)(s:F):Bool:=s.all cI&&!(s==[])&&!hY s&&decide (s.length<=9)&&decide (c9 s<=m)
theorem xv(s:F)(m:Int)(hs:ap s.length):f115 ((s,(m,())),())=some ((bif e8 m s then c9 s else 0,(e8 m s,())),()):=by
 have key:s.length<=9->rQ ((s,(m,((0:Int),((s.length:Int),((0:Int),()))))),())=some (bif allI (fun i x=>cI x) 0 s then .inr ((m,(c9 s,())),()) else .inl (((0:Int),(false,())),())):=by
  intro hQ;have:=lF pT s (fun i n=>((s,(m,(n,((s.length:Int),((i:Int),()))))),())) (fun i x n=>some (bif cI x then .inl (dU n x) else .inr (.inl (((0:Int),(false,())),())))) (fun n=>.inr ((m,(n,())),()))
   (fun i n=>0<=n/\n<10^i/\(i<=9)) (0:Int) ⟨by decide,by decide,by decide⟩ (fun i x n hx dq=>?_) (fun n _=>?_)
  ·exact this.trans (by rw[xe];rfl)
  ·have hi:=cS hx;have hw:ap i:=by unfold ap at*;omega
   obtain⟨h0,h1,cp⟩:=dq;refine⟨?_,fun aC af=>?_⟩
   ·simp only[pT,b8 hi,cond_true,xq,bX,hx,Option.bind_some,bS hw,n_,mX,Kv];cases Z:cI x with
    |false=>
     unfold cI at Z;by_cases aw:(48:Int)<=(x.toNat:Int)<;>by_cases bk:(x.toNat:Int)<=57<;>simp[aw,bk] at Z ⊢
    |true=>
     obtain⟨aw,bk⟩:=ix Z;have:=DD (i:=i) Z (by omega) h0 h1
     simp only[aw,bk,decide_true,Bool.not_true,Bool.not_false,cond_true,cond_false,Option.bind_some,bX,hx,this,bS hw,Bool.and_true,Option.map_some]
   ·simp only[Option.some.injEq] at af;cases ar:cI x with
    |false=>rw[ar] at af;cases af
    |true=>
     rw[ar] at af;simp only[cond_true,Sum.inl.injEq] at af;subst af;have:=C5 ar h0 h1;exact⟨this.1,this.2,by omega⟩
  ·simp only[pT,dh,cond_false]
 rw[gH] at key;cases s with
 |nil=>rfl
 |cons b r=>
  have hb:aU (b::r) 0=some b:=rfl;have he:((b::r)==([]:F))=false:=rfl;have hl:decide (((b::r).length:Int)>1)=!(r==[]):=by cases r<;>simp;omega
  have hQ:decide (((b::r).length:Int)>9)=!decide ((b::r).length<=9):=by by_cases h:(b::r).length<=9<;>simp only[h,decide_true,decide_false,Bool.not_true,Bool.not_false,decide_eq_true_eq,decide_eq_false_iff_not]<;>omega
  have qj:hY (b::r)=(!(r==[])&&(b.toNat:Int)==48):=by cases r<;>rfl
  simp only[f115,zH,he,hl,hQ,Bool.not_false,cond_true,Bool.not_not,hb,Option.bind_some];have fin:(b::r).length<=9->hY (b::r)=false->((rQ ((b::r,(m,((0:Int),(((b::r).length:Int),((0:Int),()))))),())).bind fun Ib=>match Ib with
    |.inl vq=>some ((vq.1.1,(vq.1.2.1,())),())
    |.inr qp=>bif decide (qp.1.2.1>qp.1.1) then some (((0:Int),(false,())),()) else some ((qp.1.2.1,(true,())),()))=
    some ((bif e8 m (b::r) then c9 (b::r) else 0,(e8 m (b::r),())),()):=by
   intro hQ jG;rw[key hQ];unfold e8;rw[he,jG];cases Z:List.all (b::r) cI with
   |false=>rfl
   |true=>
    simp only[cond_true,Option.bind_some,Bool.not_false,Bool.true_and,mX];simp only[hQ,decide_true,Bool.true_and];cases decide (c9 (b::r)<=m)<;>rfl
  by_cases ar:(b::r).length<=9
  ·simp only[ar,decide_true,cond_true];cases hr:(r==[]) with
   |true=>
    simp only[Bool.not_true,cond_false,Option.bind_some];exact fin ar (by rw[qj,hr];rfl)
   |false=>
    simp only[Bool.not_false,cond_true,Option.bind_some];cases pk:((b.toNat:Int)==48) with
    |true=>
     have:e8 m (b::r)=false:=by unfold e8;rw[qj,hr,pk];simp
     rw[this];rfl
    |false=>
     simp only[cond_false];exact fin ar (by rw[qj,hr,pk];rfl)
  ·have:e8 m (b::r)=false:=by
    unfold e8;rw[decide_eq_false ar];simp
   simp only[ar,decide_false,cond_false,Option.bind_some,cond_true,this]
theorem aeT{n:Nat}{m:Int}(h:(n:Int)<=m)(hQ:n<1000000000):e8 m (Lib.decDigits n)=true:=by
 unfold e8;have h1:(Lib.decDigits n==[])=false:=by simpa using Rf n
 have h2:=E' 8 n (by omega)
 rw[GO,h1,O2,GN,decide_eq_true h2,decide_eq_true h];rfl
theorem abh(n:Nat)(h:n<1000000):f74 ((Lib.itoa (n:Int),()),())=some (((n:Int),()),()):=by
 have h1:(Lib.decDigits n==[])=false:=by simpa using Rf n
 have h2:=E' 5 n (by omega)
 have:=Fi ((Lib.decDigits n,()),()) (show ap (Lib.decDigits n).length by unfold ap;omega)
 have this:f74 ((Lib.decDigits n,()),())=some ((bif(Lib.decDigits n).all cI&&decide ((Lib.decDigits n).length<=6)&&!(Lib.decDigits n==[])&&!hY (Lib.decDigits n) then c9 (Lib.decDigits n) else-1,()),()):=this
 rw[pP,this,GO,decide_eq_true h2,h1,O2,GN];rfl
def nG{ax:Type}(B:Option ax)(R:ax->Prop):Prop:=∀a,B=some a <-> R a
theorem nG.alk{ax:Type}{B cY:Option ax}{R:ax->Prop}(h:nG B R)(af:nG cY R):B=cY:=by
 cases B with
 |some a=>exact((af a).2 ((h a).1 rfl)).symm
 |none=>
  cases cY with
  |none=>rfl
  |some a=>exact(h a).2 ((af a).1 rfl)
noncomputable abbrev am3:bi:=[(209,I0)]
theorem anY:a_ U (bg aj am3):=bf ⟨Sg,⟨⟩⟩
abbrev i166:Shape:=⟨[ao 0,ao 1],[],23⟩
abbrev Tr:Shape:=⟨[ao 4,ao 5,au 6],[],23⟩
noncomputable def f166(a:i166.J):Option Tr.J:=
(f209 ((a.1.1,a.1.2.1,()),())).bind fun b=>
 bif(decide (b.1.1>=(0:Int))) then
(br a.1.1 (0:Int) b.1.1).bind fun c=>
(br a.1.1 (IntKind.i64.wrap (b.1.1+(a.1.2.1.length:Int))) (a.1.1.length:Int)).bind fun d=>
 some ((c,d,true,()),())
else
 some ((a.1.1,([]:F),false,()),())
noncomputable def Vo:aH:=aP aj Tryz.f166 i166 Tr [] f166
theorem akO:aG U 166 Vo:=aS anY Tryz.func166 (by kernel_rfl) ag (fun y=>by kernel_rfl) fun a=>by kernel_rfl
noncomputable abbrev anz:bi:=[(166,Vo)]
theorem an8:a_ U (bg aj anz):=bf ⟨akO,⟨⟩⟩
abbrev i114:Shape:=⟨[ao 0,ao 1],[],13⟩
abbrev TZ:Shape:=⟨[ao 4,ao 5,au 6],[],13⟩
noncomputable def f114(a:i114.J):Option TZ.J:=
(f166 ((a.1.1,a.1.2.1,()),())).bind fun b=>
 some ((b.1.1,b.1.2.1,b.1.2.2.1,()),())
noncomputable def vK:aH:=aP aj Tryz.f114 i114 TZ [] f114
theorem Bh:aG U 114 vK:=aS an8 Tryz.func114 (by kernel_rfl) ag (fun y=>by kernel_rfl) fun a=>by kernel_rfl
noncomputable def R9:aH:=GR
theorem ai6:aG U 250 R9:=_B (fn:=Tryz.f250) (by kernel_rfl) (by kernel_rfl) (by kernel_rfl) (by kernel_rfl) (by kernel_rfl)
noncomputable abbrev amI:bi:=[(212,BD),(250,R9)]
theorem VZ:a_ U (bg aj amI):=bf ⟨z212,ai6,⟨⟩⟩
abbrev yK:Shape:=⟨[ao 0,ao 1,ae 5],[],34⟩
abbrev Fu:List aO:=[(.ret,⟨[ae 4],[],34⟩)]
noncomputable def ag6(y:yK.J):bR yK Fu:=
(f212 ((y.1.1,y.1.2.1,()),())).bind fun a=>
 bif(a.1.1==((-1):Int)) then
 some (.inr ((y.1.2.2.1,()),()))
else
(br y.1.1 (IntKind.i64.wrap (a.1.1+(y.1.2.1.length:Int))) (y.1.1.length:Int)).bind fun b=>
 some (.inl ((b,y.1.2.1,(IntKind.i64.wrap (y.1.2.2.1+(1:Int))),()),()))
noncomputable def P3:yK.J->Option (aD Fu):=bv ag6
theorem aga:aY U (an (codeOf Tryz.f211) 1 62) (a' yK Fu P3):=bT VZ (by kernel_rfl) ag fun y=>by kernel_rfl
abbrev i211:Shape:=⟨[ao 0,ao 1],[],34⟩
abbrev S1:Shape:=⟨[ae 4],[],34⟩
noncomputable def f211(a:i211.J):Option S1.J:=
 bif((a.1.2.1.length:Int)==(0:Int)) then
 none
else
 bif((a.1.2.1.length:Int)==(1:Int)) then
(aU a.1.2.1 (0:Int)).bind fun b=>
(some ()).bind fun c=>
 some ((((Lib.countByte a.1.1 (b.toNat:Int).toNat.toUInt8:Nat):Int),()),())
else
(P3 ((a.1.1,a.1.2.1,(0:Int),()),())).bind fun d=>
 some ((d.1.1,()),())
noncomputable def U2:aH:=aP aj Tryz.f211 i211 S1 [] f211
theorem akw:aG U 211 U2:=aS VZ Tryz.func211 (by kernel_rfl) (ba aga ag) (fun y=>by kernel_rfl) fun a=>by kernel_rfl
noncomputable abbrev am2:bi:=[(211,U2),(212,BD)]
theorem Jd:a_ U (bg aj am2):=bf ⟨akw,z212,⟨⟩⟩
abbrev PK:Shape:=⟨[ao 0,ao 1,ae 2,ae 3],[],66⟩
abbrev Ps:List aO:=[(.norm,⟨[ao 0,ao 1,ae 2,ae 3],[],66⟩)]
noncomputable def zv(y:PK.J):Option (aD Ps):=
 bif(decide (y.1.2.2.2.1<(0:Int))) then
(f211 ((y.1.1,y.1.2.1,()),())).bind fun a=>
 some ((y.1.1,y.1.2.1,y.1.2.2.1,(IntKind.i64.wrap (a.1.1+(1:Int))),()),())
else
 some ((y.1.1,y.1.2.1,y.1.2.2.1,y.1.2.2.2.1,()),())
theorem agq:aY U (an (codeOf Tryz.f167) 1 30) (a' PK Ps zv):=cW Jd (by kernel_rfl) ag fun y=>by kernel_rfl
abbrev xG:Shape:=⟨[ao 0,ao 1,ae 2,ae 3,bc 9 3000576,ae 10],[bb 3000576 .str 9 0],66⟩
abbrev Dw:List aO:=[(.exit 0,⟨[ao 0,bc 9 3000576,ae 10],[bb 3000576 .str 9 0],66⟩)]
noncomputable def xR(y:xG.J):bR xG Dw:=
 bif(decide (y.1.2.2.2.2.2.1<y.1.2.2.2.1)) then
(f212 ((y.1.1,y.1.2.1,()),())).bind fun a=>
 bif(decide (a.1.1<(0:Int))) then
 some (.inr ((y.1.1,(),y.1.2.2.2.2.2.1,()),y.2.1,()))
else
(br y.1.1 (0:Int) (IntKind.i64.wrap (a.1.1+y.1.2.2.1))).bind fun b=>
(a8 y.2.1.length y.1.2.2.2.2.2.1).bind fun c=>
((y.2.1[c]?).bind fun q=>some b).bind fun d=>
(br y.1.1 (IntKind.i64.wrap (a.1.1+(y.1.2.1.length:Int))) (y.1.1.length:Int)).bind fun e=>
 some (.inl ((e,y.1.2.1,y.1.2.2.1,y.1.2.2.2.1,(),(IntKind.i64.wrap (y.1.2.2.2.2.2.1+(1:Int))),()),(y.2.1.set c d),()))
else
 some (.inr ((y.1.1,(),y.1.2.2.2.2.2.1,()),y.2.1,()))
noncomputable def ue:xG.J->Option (aD Dw):=bv xR
theorem acD:aY U (an (codeOf Tryz.f167) 1 2044) (a' xG Dw ue):=bT Jd (by kernel_rfl) ag fun y=>by kernel_rfl
abbrev i167:Shape:=⟨[ao 0,ao 1,ae 2,ae 3],[],66⟩
abbrev Tq:Shape:=⟨[aK 8 .str],[],66⟩
noncomputable def f167(a:i167.J):Option Tq.J:=
 bif(a.1.2.2.2.1==(0:Int)) then
 some ((([]:List F),()),())
else
 bif(a.1.2.1==([]:F)) then
 none
else
(zv ((a.1.1,a.1.2.1,a.1.2.2.1,a.1.2.2.2.1,()),())).bind fun b=>
(jE 16 (jZ b.1.2.2.2.1 (IntKind.i64.wrap ((b.1.1.length:Int)+(1:Int)))) (jZ b.1.2.2.2.1 (IntKind.i64.wrap ((b.1.1.length:Int)+(1:Int)))) ([]:F)).bind fun c=>
(ue ((b.1.1,b.1.2.1,b.1.2.2.1,(IntKind.i64.wrap ((jZ b.1.2.2.2.1 (IntKind.i64.wrap ((b.1.1.length:Int)+(1:Int))))-(1:Int))),(),(0:Int),()),c,())).bind fun d=>
(a8 d.2.1.length d.1.2.2.1).bind fun e=>
((d.2.1[e]?).bind fun q=>some d.1.1).bind fun f=>
(br (d.2.1.set e f) (0:Int) (IntKind.i64.wrap (d.1.2.2.1+(1:Int)))).bind fun g=>
 some ((g,()),())
noncomputable def I6:aH:=aP aj Tryz.f167 i167 Tq [] f167
theorem z167:aG U 167 I6:=aS Jd Tryz.func167 (by kernel_rfl) (ba agq (ba acD ag)) (fun y=>by kernel_rfl) fun a=>by kernel_rfl
noncomputable abbrev anx:bi:=[(167,I6)]
theorem an7:a_ U (bg aj anx):=bf ⟨z167,⟨⟩⟩
abbrev i116:Shape:=⟨[ao 0,ao 1],[],8⟩
abbrev TX:Shape:=⟨[aK 4 .str],[],8⟩
noncomputable def f116(a:i116.J):Option TX.J:=
(f167 ((a.1.1,a.1.2.1,(0:Int),((-1):Int),()),())).bind fun b=>
 some ((b.1.1,()),())
noncomputable def VT:aH:=aP aj Tryz.f116 i116 TX [] f116
theorem z116:aG U 116 VT:=aS an7 Tryz.func116 (by kernel_rfl) ag (fun y=>by kernel_rfl) fun a=>by kernel_rfl
abbrev i251:Shape:=⟨[ao 0,ao 1],[],18⟩
abbrev SK:Shape:=⟨[au 4],[],18⟩
noncomputable def f251(a:i251.J):Option SK.J:=
 bif(decide ((a.1.1.length:Int)>=(a.1.2.1.length:Int))) then
(br a.1.1 (0:Int) (a.1.2.1.length:Int)).bind fun b=>
 some (((b==a.1.2.1),()),())
else
 some ((false,()),())
noncomputable def IX:aH:=aP aj Tryz.f251 i251 SK [] f251
theorem Se:aG U 251 IX:=aS g0 Tryz.func251 (by kernel_rfl) ag (fun y=>by kernel_rfl) fun a=>by kernel_rfl
noncomputable abbrev amG:bi:=[(251,IX)]
theorem anQ:a_ U (bg aj amG):=bf ⟨Se,⟨⟩⟩
abbrev i213:Shape:=⟨[ao 0,ao 1],[],15⟩
abbrev SZ:Shape:=⟨[ao 4,au 5],[],15⟩
noncomputable def f213(a:i213.J):Option SZ.J:=
(f251 ((a.1.1,a.1.2.1,()),())).bind fun b=>
 bif(!b.1.1) then
 some ((a.1.1,false,()),())
else
(br a.1.1 (a.1.2.1.length:Int) (a.1.1.length:Int)).bind fun c=>
 some ((c,true,()),())
noncomputable def U1:aH:=aP aj Tryz.f213 i213 SZ [] f213
theorem z213:aG U 213 U1:=aS anQ Tryz.func213 (by kernel_rfl) ag (fun y=>by kernel_rfl) fun a=>by kernel_rfl
noncomputable abbrev am1:bi:=[(213,U1)]
theorem anX:a_ U (bg aj am1):=bf ⟨z213,⟨⟩⟩
abbrev i168:Shape:=⟨[ao 0,ao 1],[],11⟩
abbrev Tp:Shape:=⟨[ao 4,au 5],[],11⟩
noncomputable def f168(a:i168.J):Option Tp.J:=
(f213 ((a.1.1,a.1.2.1,()),())).bind fun b=>
 some ((b.1.1,b.1.2.1,()),())
noncomputable def Vn:aH:=aP aj Tryz.f168 i168 Tp [] f168
theorem z168:aG U 168 Vn:=aS anX Tryz.func168 (by kernel_rfl) ag (fun y=>by kernel_rfl) fun a=>by kernel_rfl
noncomputable abbrev amF:bi:=[(251,IX)]
theorem anP:a_ U (bg aj amF):=bf ⟨Se,⟨⟩⟩
abbrev i215:Shape:=⟨[ao 0,ao 1],[],8⟩
abbrev SY:Shape:=⟨[au 4],[],8⟩
noncomputable def f215(a:i215.J):Option SY.J:=
(f251 ((a.1.1,a.1.2.1,()),())).bind fun b=>
 some ((b.1.1,()),())
noncomputable def U0:aH:=aP aj Tryz.f215 i215 SY [] f215
theorem akv:aG U 215 U0:=aS anP Tryz.func215 (by kernel_rfl) ag (fun y=>by kernel_rfl) fun a=>by kernel_rfl
noncomputable abbrev amE:bi:=[(167,I6)]
theorem anO:a_ U (bg aj amE):=bf ⟨z167,⟨⟩⟩
abbrev i216:Shape:=⟨[ao 0,ao 1,ae 2],[],11⟩
abbrev SX:Shape:=⟨[aK 6 .str],[],11⟩
noncomputable def f216(a:i216.J):Option SX.J:=
(f167 ((a.1.1,a.1.2.1,(0:Int),a.1.2.2.1,()),())).bind fun b=>
 some ((b.1.1,()),())
noncomputable def UZ:aH:=aP aj Tryz.f216 i216 SX [] f216
theorem aku:aG U 216 UZ:=aS anO Tryz.func216 (by kernel_rfl) ag (fun y=>by kernel_rfl) fun a=>by kernel_rfl
def gS(c:UInt8)(s:F):F:=match dk c s with|some (x,_)=>x|none=>s
def gR(c:UInt8)(s:F):F:=match dk c s with|some (_,y)=>y|none=>[]
theorem N'(c:UInt8)(r:F):f209 ((r,([c],())),())=some ((Lib.indexByte r c,()),()):=by
 have h0:aU ([c]:F) (0:Int)=some c:=rfl;have h1:((([c]:F).length:Int)==0)=false:=rfl;have h2:((([c]:F).length:Int)==1)=true:=rfl;have h3:((c.toNat:Int)).toNat.toUInt8=c:=by simp
 simp only[f209,zn,f244,h0,h1,h2,h3,Bool.not_false,cond_true,cond_false,Option.bind_some,Option.bind];by_cases h:(([c]:F)==r)=true
 ·have:r=[c]:=(by simpa using h:[c]=r).symm
  subst this;simp[Lib.indexByte]<;>rfl
 ·simp[h]<;>rfl
theorem mA(c:UInt8)(s:F)(hs:ap s.length):f114 ((s,([c],())),())=some ((gS c s,(gR c s,((dk c s).isSome,()))),()):=by
 have hi:=N' c s;rw[P8] at hi;unfold gS gR;simp only[f114,f166,hi,Option.bind_some];cases h:dk c s with
 |none=>rfl
 |some q=>
  obtain⟨x,y⟩:=q;obtain⟨h1,_⟩:=iV h;have hl:s.length=x.length+1+y.length:=by rw[h1];simp;omega
  have Z:decide (((x.length:Nat):Int)>=0)=true:=decide_eq_true (by omega)
  have hw:IntKind.i64.wrap (((x.length:Nat):Int)+((([c]:F).length:Nat):Int))=((x.length+1:Nat):Int):=by
   rw[eg (by simp;omega) (by unfold ap at hs;simp;omega)];simp
  have e1:br s 0 ((x.length:Nat):Int)=some x:=by rw[gI (by omega),h1];simp
  have e2:br s ((x.length+1:Nat):Int) ((s.length:Nat):Int)=some y:=by
   rw[gu (by omega)]
   congr 1
   rw[h1,show x++c::y=(x++[c])++y by simp,List.drop_left' (by simp)]
  simp only[Z,cond_true,e1,hw,e2,Option.bind_some,Option.isSome_some]
def dM(p s:F):Option F:=bif decide (p.length<=s.length)&&s.take p.length==p then some (s.drop p.length) else none
theorem L_(s p:F):f251 ((s,(p,())),())=some (((dM p s).isSome,()),()):=by
 have Z:decide (((s.length:Nat):Int)>=((p.length:Nat):Int))=decide (p.length<=s.length):=by congr 1;apply propext;omega
 unfold dM;simp only[f251,Z];cases h:decide (p.length<=s.length) with
 |false=>rfl
 |true=>
  rw[cond_true,gI (of_decide_eq_true h)];simp only[Option.bind_some,Bool.true_and];cases (s.take p.length==p)<;>rfl
theorem Z'(s p:F):f215 ((s,(p,())),())=some (((dM p s).isSome,()),()):=by
 have:=L_ s p;simp only[f215,this,Option.bind_some]
theorem Ma(s p:F):f168 ((s,(p,())),())=some (((dM p s).getD s,((dM p s).isSome,())),()):=by
 have h0:=L_ s p;simp only[f168,f213,h0,Option.bind_some];unfold dM;cases h:decide (p.length<=s.length)&&s.take p.length==p with
 |false=>rfl
 |true=>
  simp only[Bool.and_eq_true,decide_eq_true_eq] at h;have e:br s ((p.length:Nat):Int) ((s.length:Nat):Int)=some (s.drop p.length):=gu h.1;simp only[cond_true,Option.isSome_some,Bool.not_true,cond_false,e,Option.bind_some,Option.getD_some]
theorem uj(p r:F):dM p (p++r)=some r:=by
 unfold dM;rw[decide_eq_true (by simp)]
 simp
def splitN(c:UInt8):Nat->F->List F
 |0,s=>[s]
 |k+1,s=>match dk c s with
  |some (x,y)=>x::splitN c k y
  |none=>[s]
theorem xh(c:UInt8):∀(k:Nat) (s:F),(bJ c s).length<=k+1->splitN c k s=bJ c s:=by
 intro k;induction k with
 |zero=>
  intro s h;rw[MK] at h ⊢;cases hc:dk c s with
  |none=>rfl
  |some q=>
   obtain⟨x,y⟩:=q;rw[hc] at h;have:=pG c y;cases hy:bJ c y with
   |nil=>exact absurd hy this
   |cons z zs=>simp[hy] at h
 |succ k ih=>
  intro s h;rw[MK] at h ⊢;unfold splitN;cases hc:dk c s with
  |none=>rfl
  |some q=>
   obtain⟨x,y⟩:=q;rw[hc] at h;simp only[List.length_cons] at h;show x::splitN c k y=x::bJ c y;rw[ih y (by omega)]
theorem MH(c:UInt8)(k:Nat)(s:F):1<=(splitN c k s).length:=by
 cases k with
 |zero=>simp[splitN]
 |succ k=>unfold splitN;split<;>simp
theorem xg(c:UInt8):∀(k:Nat) (s:F),s.length<=k->splitN c k s=bJ c s:=fun k s h=>xh c k s (by have:=ry c s;omega)
theorem Ey{ax:Type}:∀(a:List ax) (i:Nat) (x:ax),i<a.length->(a.set i x).take (i+1)=a.take i++[x]:=by
 intro a;induction a with
 |nil=>intro i x h;simp at h
 |cons b a ih=>
  intro i x h;cases i with
  |zero=>rfl
  |succ i=>
   have:=ih i x (by simpa using h)
   simp only[List.set_cons_succ,List.take_succ_cons,List.cons_append,this]
theorem Qa(c:UInt8)(N:Nat)(eR:ap N):∀(m i:Nat) (s:F) (a:List F),i+m+1=N->a.length=N->ap s.length->s.length+i<=1099511627776->
  ∃(aC:F) (j:Nat) (cM:List F),ue ((s,([c],((0:Int),(((N-1:Nat):Int),((),((i:Int),())))))),(a,()))=some ((aC,((),((j:Int),()))),(cM,()))/\j<N/\cM.length=N/\(cM.set j aC).take (j+1)=a.take i++splitN c m s:=by
 intro m;induction m with
 |zero=>
  intro i s a hi ha hs _;refine⟨s,i,a,ca ?_,by omega,ha,?_⟩
  ·have:decide ((i:Int)<((N-1:Nat):Int))=false:=decide_eq_false (by omega)
   simp only[xR,this,cond_false]
  ·rw[Ey a i s (by omega)];rfl
 |succ m ih=>
  intro i s a hi ha hs hb;have hlt:decide ((i:Int)<((N-1:Nat):Int))=true:=decide_eq_true (by omega)
  have hx:=N' c s;have hx:f212 ((s,([c],())),())=some ((Lib.indexByte s c,()),()):=by simp only[f212,hx,Option.bind_some]
  rw[P8] at hx;cases hc:dk c s with
  |none=>
   rw[hc] at hx;refine⟨s,i,a,ca ?_,by omega,ha,?_⟩
   ·have:decide ((-1:Int)<0)=true:=rfl;simp only[xR,hlt,cond_true,hx,Option.bind_some,this]
   ·rw[Ey a i s (by omega)];simp only[splitN,hc]
  |some q=>
   obtain⟨x,y⟩:=q;rw[hc] at hx;obtain⟨h1,_⟩:=iV hc;have hl:s.length=x.length+1+y.length:=by rw[h1];simp;omega
   obtain⟨aC,j,cM,g1,g2,g3,g4⟩:=ih (i+1) y (a.set i x) (by omega) (by simp[ha]) (by unfold ap at hs ⊢;omega) (by omega)
   refine⟨aC,j,cM,?_,g2,g3,?_⟩
   ·refine(dz ?_).trans g1;have Z:decide (((x.length:Nat):Int)<0)=false:=decide_eq_false (by omega)
    have O:IntKind.i64.wrap (((x.length:Nat):Int)+0)=((x.length:Nat):Int):=by unfold ap at hs;rw[eg (by omega) (by omega)];omega
    have aN:IntKind.i64.wrap (((x.length:Nat):Int)+((([c]:F).length:Nat):Int))=((x.length+1:Nat):Int):=by
     unfold ap at hs;rw[eg (by simp;omega) (by simp;omega)];simp
    have e1:br s 0 ((x.length:Nat):Int)=some x:=by rw[gI (by omega),h1];simp
    have e2:br s ((x.length+1:Nat):Int) ((s.length:Nat):Int)=some y:=by
     rw[gu (by omega)]
     congr 1
     rw[h1,show x++c::y=(x++[c])++y by simp,List.drop_left' (by simp)]
    have bp:a8 a.length (i:Int)=some i:=fq (by omega)
    have c_:a[i]? =some (a[i]'(by omega)):=List.getElem?_eq_getElem (by omega)
    simp only[xR,hlt,cond_true,hx,Option.bind_some,Z,cond_false,O,e1,bp,c_,aN,e2,bS (i:=i) (by unfold ap;omega)]
   ·rw[g4,Ey a i x (by omega)]
    simp only[splitN,hc,List.append_assoc,List.cons_append,List.nil_append]
theorem aam(c:UInt8):∀s:F,(bJ c s).length=Lib.countByte s c+1:=by
 intro s;induction s with
 |nil=>rfl
 |cons b r ih=>
  unfold bJ Lib.countByte;rw[List.count_cons];unfold Lib.countByte at ih;cases hb:b==c with
  |true=>simp[ih]
  |false=>
   simp only[cond_false];have hne:=pG c r;cases hy:bJ c r with
   |nil=>exact absurd hy hne
   |cons y bd=>rw[hy] at ih;simpa using ih
theorem aaG(c:UInt8)(s:F)(n N:Nat)(hs:s.length<=1000000000)(h1:1<=n)(eR:min n (s.length+1)=N):
  f167 ((s,([c],((0:Int),((n:Int),())))),())=some ((splitN c (N-1) s,()),()):=by
 have qO:((n:Int)==0)=false:=by rw[beq_eq_false_iff_ne];omega
 have hc0:(([c]:F)==[])=false:=rfl;have hneg:decide ((n:Int)<0)=false:=decide_eq_false (by omega)
 have hw:IntKind.i64.wrap (((s.length:Nat):Int)+1)=((s.length+1:Nat):Int):=by rw[eg (by omega) (by omega)];omega
 have hm:jZ (n:Int) ((s.length+1:Nat):Int)=(N:Int):=by unfold jZ;split<;>omega
 have J6:jE 16 (N:Int) (N:Int) ([]:F)=some (List.replicate N []):=uS (by decide) (by unfold ap;omega)
 have hw1:IntKind.i64.wrap ((N:Int)-1)=((N-1:Nat):Int):=by rw[eg (by omega) (by omega)];omega
 obtain⟨aC,j,cM,g1,g2,g3,g4⟩:=Qa c N (by unfold ap;omega) (N-1) 0 s (List.replicate N []) (by omega) (by simp) (by unfold ap;omega) (by omega)
 have g1:ue ((s,([c],((0:Int),(((N-1:Nat):Int),((),((0:Int),())))))),(List.replicate N ([]:F),()))=_:=g1;have e1:a8 cM.length (j:Int)=some j:=fq (by omega)
 have e2:cM[j]? =some (cM[j]'(by omega)):=List.getElem?_eq_getElem (by omega)
 have bp:br (cM.set j aC) 0 ((j+1:Nat):Int)=some (splitN c (N-1) s):=by
  rw[gI (by simp;omega),g4];simp
 simp only[f167,qO,hc0,cond_false,zv,hneg,Option.bind_some,hw,hm,J6,hw1,g1,e1,e2,bS (i:=j) (by unfold ap;omega),bp]
theorem M6(s:F)(hs:s.length<=1000000000):f216 ((s,([32],((5:Int),()))),())=some ((splitN 32 4 s,()),()):=by
 have h:=aaG 32 s 5 _ hs (by decide) rfl
 have h:f167 ((s,(([32]:F),((0:Int),((5:Int),())))),())=_:=h;simp only[f216,h,Option.bind_some];congr 3
 by_cases aw:4<=s.length
 ·rw[show min 5 (s.length+1)-1=4 by omega]
 ·rw[xg 32 _ s (by omega),xg 32 4 s (by omega)]
theorem M7(s:F)(hs:s.length<=1000000000):f116 ((s,([32],())),())=some ((bJ 32 s,()),()):=by
 have hcs:=aam 32 s;have hl:=ry 32 s;have qO:((-1:Int)==0)=false:=rfl;have hc0:(([32]:F)==[])=false:=rfl;have hneg:decide ((-1:Int)<0)=true:=rfl;have al6:f211 ((s,(([32]:F),())),())=some (((Lib.countByte s 32:Int),()),()):=rfl;have B9:IntKind.i64.wrap ((Lib.countByte s 32:Int)+1)=(((bJ 32 s).length:Nat):Int):=by rw[eg (by omega) (by omega)];omega
 have hw:IntKind.i64.wrap (((s.length:Nat):Int)+1)=((s.length+1:Nat):Int):=by rw[eg (by omega) (by omega)];omega
 generalize eR:(bJ 32 s).length=N at B9 hcs hl;have hm:jZ (N:Int) ((s.length+1:Nat):Int)=(N:Int):=by unfold jZ;split<;>omega
 have J6:jE 16 (N:Int) (N:Int) ([]:F)=some (List.replicate N []):=uS (by decide) (by unfold ap;omega)
 have hw1:IntKind.i64.wrap ((N:Int)-1)=((N-1:Nat):Int):=by rw[eg (by omega) (by omega)];omega
 obtain⟨aC,j,cM,g1,g2,g3,g4⟩:=Qa 32 N (by unfold ap;omega) (N-1) 0 s (List.replicate N []) (by omega) (by simp) (by unfold ap;omega) (by omega)
 have g1:ue ((s,(([32]:F),((0:Int),(((N-1:Nat):Int),((),((0:Int),())))))),(List.replicate N ([]:F),()))=_:=g1;have e1:a8 cM.length (j:Int)=some j:=fq (by omega)
 have e2:cM[j]? =some (cM[j]'(by omega)):=List.getElem?_eq_getElem (by omega)
 have bp:br (cM.set j aC) 0 ((j+1:Nat):Int)=some (bJ 32 s):=by
  rw[gI (by simp;omega),g4,xh 32 (N-1) s (by omega)];simp
 simp only[f116,f167,qO,hc0,cond_false,zv,hneg,cond_true,al6,Option.bind_some,B9,hw,hm,J6,hw1,g1,e1,e2,bS (i:=j) (by unfold ap;omega),bp]
end Go.Proofs
namespace Go.Proofs
open Go.Shelf Go.RowKit Go.Lib
variable {P:Program}{ρ:Ren}
abbrev o_(s:ByteArray):Prop:=∀(j:Nat) b,s.data.toList[j]? =some b->b.toNat<128
theorem afj{r:Int}(h0:128<=r):2<=(Utf8.encode r).size/\∀j (h:j<(Utf8.encode r).size),0<j->128<=((Utf8.encode r)[j]'h).toNat:=by
 unfold Utf8.encode;generalize hc:(if Utf8.valid r then r.toNat else Utf8.runeError)=c
 have hc1:128<=c:=by
  rw[<-hc];split
  ·omega
  ·decide
 simp only[];have k:∀x:Nat,128<=128+x%64/\128+x%64<256:=fun x=>by omega
 repeat' split
 all_goals first|omega|skip
 ·refine⟨by show 2<=2;decide,fun j h hj=>?_⟩
  have hj2:j<2:=h;have:j=1:=by omega
  subst this;show 128<=(UInt8.ofNat (128+c%64)).toNat;rw[UInt8.toNat_ofNat'];have:=k c;omega
 ·refine⟨by show 2<=3;decide,fun j h hj=>?_⟩
  have hj2:j<3:=h;have:j=1\/j=2:=by omega
  rcases this with rfl|rfl
  ·show 128<=(UInt8.ofNat (128+c/64%64)).toNat;rw[UInt8.toNat_ofNat'];have:=k (c/64);omega
  ·show 128<=(UInt8.ofNat (128+c%64)).toNat;rw[UInt8.toNat_ofNat'];have:=k c;omega
 ·refine⟨by show 2<=4;decide,fun j h hj=>?_⟩
  have hj2:j<4:=h;have:j=1\/j=2\/j=3:=by omega
  rcases this with rfl|rfl|rfl
  ·show 128<=(UInt8.ofNat (128+c/4096%64)).toNat;rw[UInt8.toNat_ofNat'];have:=k (c/4096);omega
  ·show 128<=(UInt8.ofNat (128+c/64%64)).toNat;rw[UInt8.toNat_ofNat'];have:=k (c/64);omega
  ·show 128<=(UInt8.ofNat (128+c%64)).toNat;rw[UInt8.toNat_ofNat'];have:=k c;omega
theorem ZL{l:List UInt8}{b:UInt8}(h:∀x,x∈l->x.toNat<128)(hb:128<=b.toNat):Lib.indexByte l b=-1:=by
 induction l with
 |nil=>rfl
 |cons x r ih=>
  have h1:=h x List.mem_cons_self;have h2:=ih fun y hy=>h y (List.mem_cons_of_mem _ hy)
  have h3:(x==b)=false:=by
   rw[beq_eq_false_iff_ne];rintro rfl;omega
  unfold Lib.indexByte;rw[h2,h3];rfl
set_option maxHeartbeats 4000000 in
set_option maxRecDepth 1000000 in
theorem Any.ZX(L:Lays.n152 P ρ)(s:ByteArray)(w:World)(ha:o_ s):
  Calls P (ρ.f 152) #[.string s,.int .i32 65533] w fun e w'=>e=.returned (.int .i64 (-1))/\∃pos,w'=w.iter s pos:=by
 have HA:Aside (o_ s):=ha;clear ha;have t3:=L.t3;have a3:=L.a3;have z3:=L.z3;have v3:=L.v3;have t4:=L.t4;have a4:=L.a4;have z4:=L.z4;have v4:=L.v4;have t5:=L.t5;have a5:=L.a5;have z5:=L.z5;have v5:=L.v5;have t9:=L.t9;have a9:=L.a9;have z9:=L.z9;have v9:=L.v9;have t21:=L.t21;have a21:=L.a21;have z21:=L.z21;have v21:=L.v21;go_enter L.f152,Body.n152_ntmps ρ
 go_wp2
 go_loopg [5,6] s.size (fun g _ _ wx=>∃i:Nat,i+g=s.size/\wx=w.iter s i)
 case atStart=>exact⟨0,by omega,rfl⟩
 case round=>
  obtain⟨i,hig,rfl⟩:=hrel;cases gk with
  |zero=>
   obtain rfl:i=s.size:=by omega
   have hnx:=run_next_end (P:=P) w s s.size
   go_wp2
   go_ret
   exact⟨rfl,_,rfl⟩
  |succ g=>
   have hi:i<s.size:=by omega
   obtain⟨x,hx⟩:∃x:UInt8,s[i]'hi=x:=⟨_,rfl⟩;have hxl:s.data.toList[i]? =some x:=by rw[<-hx];exact Lib.data_getElem? s i hi
   have hx128:x.toNat<128:=HA.out i x hxl;have hnx:=fun ty=>run_next_ascii (P:=P) w s i ty hi (by rw[hx];exact hx128)
   rw[hx] at hnx;clear hxl hx;have hne:((x.toNat:Int)==65533)=false:=by rw[beq_eq_false_iff_ne];omega
   go_wp2
   go_roundg g
   case measure=>omega
   case rel=>exact⟨i+1,by omega,rfl⟩
set_option maxHeartbeats 8000000 in
set_option maxRecDepth 1000000 in
theorem Any.ZK(L:Lays.n152 P ρ)(s:ByteArray)(r:Int)(w:World)(h0:128<=r)(h1:r<=2147483647)(hne:r≠65533)(hs:s.size<=1000000)(ha:o_ s):
  Calls P (ρ.f 152) #[.string s,.int .i32 r] w fun e w'=>e=.returned (.int .i64 (-1))/\Below w.heap.size w w':=by
 have HA:Aside (o_ s):=ha;clear ha;have t3:=L.t3;have a3:=L.a3;have z3:=L.z3;have v3:=L.v3;have t4:=L.t4;have a4:=L.a4;have z4:=L.z4;have v4:=L.v4;have t5:=L.t5;have a5:=L.a5;have z5:=L.z5;have v5:=L.v5;have t9:=L.t9;have a9:=L.a9;have z9:=L.z9;have v9:=L.v9;have t21:=L.t21;have a21:=L.a21;have z21:=L.z21;have v21:=L.v21;have e119:∀args w,(callFunc (ρ.f 119) args).run P w=.ok (.enter (ρ.f 119) args) w:=enters_of L.f119 (by kernel_rfl) rfl
 have e137:∀args w,(callFunc (ρ.f 137) args).run P w=.ok (.enter (ρ.f 137) args) w:=enters_of L.f137 (by kernel_rfl) rfl
 have b1:¬(r<128):=by omega
 have b2:(0:Int)<=r:=by omega
 have b3:(r==65533)=false:=by rw[beq_eq_false_iff_ne];exact hne
 obtain⟨hE,hB⟩:=afj h0;cases hv:Lib.validRune r with
 |false=>
  go_enter L.f152,Body.n152_ntmps ρ
  go_wp2_with (go_at_fn (ρ.f 119);refine(Any.utf8_ValidRune {L with} _ _).mono ?_;rintro e w' ⟨rfl,hw⟩;rw[hw,hv])
  go_ret
  exact⟨rfl,Below.refl _ _⟩
 |true=>
  have mixed:=L.mixed;have s21:(P.underlying (ρ.t 21)).isSome=true:=by rw[L.t21];rfl
  have hcv:=fun w=>run_convert_int_string (P:=P) w (ρ.t 21) (ρ.t 9) .i32 r s21 L.t9
  have hRs:(Utf8.encode r).size<=4:=encode_size_le r;generalize hR:Utf8.encode r=R at hE hB hcv hRs;clear hR;obtain⟨n,hn⟩:∃n:Nat,R.size=n+1:=⟨R.size-1,by omega⟩
  have hidx:(R.size:Int)-1=(n:Int):=by omega
  go_enter L.f152,Body.n152_ntmps ρ
  go_wp2_with (go_at_fn (ρ.f 119);refine(Any.utf8_ValidRune {L with} _ _).mono ?_;rintro e w' ⟨rfl,hw⟩;rw[hw,hv])
  go_step3
  go_wp2
  refine wp_loop_rounds 1 ?_
  rw[rounds_succ]
  go_wp2
  ·have hlt:(n:Int)<(s.size:Int):=by omega
   have hns:n<s.size:=by omega
   have hnR:n<R.size:=by omega
   have hx:=HA.out n _ (Lib.data_getElem? s n hns);have hy:=hB n hnR (by omega)
   obtain⟨x,hxe⟩:∃x:UInt8,s[n]'hns=x:=⟨_,rfl⟩;obtain⟨y,hye⟩:∃y:UInt8,R[n]'hnR=y:=⟨_,rfl⟩;rw[hxe] at hx;rw[hye] at hy;have g1:=fun w=>run_index_string (P:=P) w (ρ.t 9) s .i64 (n:Int) L.t9
   have g2:=fun w=>run_index_string (P:=P) w (ρ.t 9) R .i64 (n:Int) L.t9
   simp only[show(0:Int)<=(n:Int)/\(n:Int)<(s.size:Int) from⟨by omega,hlt⟩,dif_pos,Int.toNat_natCast,hxe] at g1
   simp only[show(0:Int)<=(n:Int)/\(n:Int)<(R.size:Int) from⟨by omega,by omega⟩,dif_pos,Int.toNat_natCast,hye] at g2
   go_step3
   go_wp2
   go_region_o
   have hxy:((x.toNat:Int)==(y.toNat:Int))=false:=by rw[beq_eq_false_iff_ne];omega
   have hxy':¬x.toNat=y.toNat:=by omega
   go_wp2
   have hsm:indexByte (List.take (s.size-(n+1)) (List.drop (n+1) s.data.toList)) y=-1:=by
    refine ZL (fun z hz=>?_) hy
    obtain⟨k,hk⟩:=List.getElem?_of_mem (List.mem_of_mem_drop (List.mem_of_mem_take hz));exact HA.out k z hk
   have hb1:(n:Int)+1<=(s.size:Int):=by omega
   have hb0:(0:Int)<=(n:Int)+1:=by omega
   have hb2:¬((s.size:Int)<(n:Int)+1):=by omega
   have hbn:n+1<=s.size:=by omega
   have hsl1:∀w,(Instr.slice (ρ.t 9) (.string s) (some (.int .i64 ((n:Int)+1))) none none).run P w=.ok (.string (s.extract (n+1) s.size)) w:=fun w=>by
    rw[run_slice_string_from_if w (ρ.t 9) s .i64 _ L.t9,if_pos ⟨by omega,by omega⟩]
    rfl
   have hw1:IntKind.i64.wrap ((n:Int)+1)=(n:Int)+1:=by rw[IntKind.wrap_i64];omega
   have hsl2:∀w,(Instr.slice (ρ.t 9) (.string s) (some (.int .i64 (IntKind.i64.wrap ((n:Int)+1)))) none none).run P w=.ok (.string (s.extract (n+1) s.size)) w:=fun w=>by rw[hw1];exact hsl1 w
   go_region_with_o (go_at_fn (ρ.f 137);refine(Any.strings_IndexByte {L with} _ _ _).mono ?_;rintro e w' ⟨rfl,hw⟩;rw[hw])
   go_wp2
   rw[Exit.noGoto_ret];simp only[Exit.inBlock,Exit.then]
   rw[Exit.noGoto_ret];simp only[Exit.inBlock,Exit.then]
   go_ret
   exact⟨rfl,(Below.refl _ _).drew.drew⟩
  ·rw[Exit.noGoto_ret];go_ret
   exact⟨rfl,Below.refl _ _⟩
theorem aal(s:ByteArray)(pos:Nat)(h:pos<s.size)(ha:128<=(s[pos]'h).toNat):∀j,j<(Utf8.decode s pos).2->pos+j<s.size/\∀b,s.data.toList[pos+j]? =some b->128<=b.toNat:=by
 have g:∀k (hk:pos+k<s.size) b,s.data.toList[pos+k]? =some b->s.get! (pos+k)=b:=fun k hk b hb=>by
  have e:=Lib.data_getElem? s (pos+k) hk;rw[hb] at e;have:=get_at s (pos+k) hk;rw[Nat.add_zero] at this;rw[this];exact(Option.some.inj e).symm
 have z:∀b,s.data.toList[pos+0]? =some b->128<=b.toNat:=fun b hb=>by
  have e:=Lib.data_getElem? s pos h;rw[Nat.add_zero,e] at hb;rw[<-Option.some.inj hb];exact ha
 have c:∀k,(decide (pos+k<s.size)&&(s.get! (pos+k)).toNat/64==2)=true->pos+k<s.size/\∀b,s.data.toList[pos+k]? =some b->128<=b.toNat:=fun k hk=>by
  simp only[Bool.and_eq_true,decide_eq_true_eq,beq_iff_eq] at hk;refine⟨hk.1,fun b hb=>?_⟩
  have:=g k hk.1 b hb;rw[this] at hk;omega
 have one:∀j,j<1->pos+j<s.size/\∀b,s.data.toList[pos+j]? =some b->128<=b.toNat:=fun j hj=>by
  obtain rfl:j=0:=by omega
  exact⟨h,z⟩
 have hn:¬(s[pos]'h).toNat<128:=by omega
 simp only[Utf8.decode,get_at s pos h,hn,if_false];split
 ·rename_i h2;simp only[Bool.and_eq_true] at h2;have c1:=c 1 (by simpa using h2.2)
  split
  ·intro j hj;have:j=0\/j=1:=by simp only at hj;omega
   rcases this with rfl|rfl
   ·exact⟨h,z⟩
   ·exact c1
  ·exact one
 ·split
  ·rename_i h2;simp only[Bool.and_eq_true] at h2;have c1:=c 1 (by simpa using h2.1.2)
   have c2:=c 2 (by simpa using h2.2)
   split
   ·intro j hj;have:j=0\/j=1\/j=2:=by simp only at hj;omega
    rcases this with rfl|rfl|rfl
    ·exact⟨h,z⟩
    ·exact c1
    ·exact c2
   ·exact one
  ·split
   ·rename_i h2;simp only[Bool.and_eq_true] at h2;have c1:=c 1 (by simpa using h2.1.1.2)
    have c2:=c 2 (by simpa using h2.1.2)
    have c3:=c 3 (by simpa using h2.2)
    split
    ·intro j hj;have:j=0\/j=1\/j=2\/j=3:=by simp only at hj;omega
     rcases this with rfl|rfl|rfl|rfl
     ·exact⟨h,z⟩
     ·exact c1
     ·exact c2
     ·exact c3
    ·exact one
   ·exact one
theorem Any._s(L:Lays.n152 P ρ)(s:ByteArray)(r:Int)(w:World)(h0:128<=r)(h1:r<=2147483647)(hs:s.size<=1000000)(ha:o_ s):
  Calls P (ρ.f 152) #[.string s,.int .i32 r] w fun e w'=>e=.returned (.int .i64 (-1))/\Below w.heap.size w w':=by
 by_cases hne:r=65533
 ·subst hne;exact(Any.ZX L s w ha).mono fun e w' ⟨h,pos,h2⟩=>⟨h,h2▸(Below.refl _ _).alloc (Nat.le_refl _) _⟩
 ·exact Any.ZK L s r w h0 h1 hne hs ha
set_option maxHeartbeats 8000000 in
set_option maxRecDepth 1000000 in
theorem Any.ZC(L:Lays.n153 P ρ)(s chars:ByteArray)(w:World)(h2:2<=chars.size)(h8:s.size<=8)(hcs:chars.size<=1000000)(hac:o_ chars):
  Calls P (ρ.f 153) #[.string s,.string chars] w fun e w'=>e=.returned (.int .i64 (Lib.indexAny s.data.toList chars.data.toList))/\Below w.heap.size w w':=by
 have HA:Aside (o_ chars):=hac;clear hac;have hemp:chars.toList.isEmpty=false:=by
  rw[Lib.toList_data];cases h:chars.data.toList with
  |nil=>have:=Lib.size_eq chars;rw[h,List.length_nil] at this;omega
  |cons _ _=>rfl
 have hn1:((chars.size:Int)==1)=false:=beq_eq_false_iff_ne.2 (by omega)
 have h8z:decide ((8:Int)<(s.size:Int))=false:=decide_eq_false (by omega)
 have t3:=L.t3;have a3:=L.a3;have z3:=L.z3;have v3:=L.v3;have t4:=L.t4;have a4:=L.a4;have z4:=L.z4;have v4:=L.v4;have t5:=L.t5;have a5:=L.a5;have z5:=L.z5;have v5:=L.v5;have t9:=L.t9;have a9:=L.a9;have z9:=L.z9;have v9:=L.v9;have t21:=L.t21;have a21:=L.a21;have z21:=L.z21;have v21:=L.v21;have e152:∀args w,(callFunc (ρ.f 152) args).run P w=.ok (.enter (ρ.f 152) args) w:=enters_of L.f152 (by kernel_rfl) rfl
 have e226:∀args w,(callFunc (ρ.f 226) args).run P w=.ok (.enter (ρ.f 226) args) w:=enters_of L.f226 (by kernel_rfl) rfl
 go_enter L.f153,Body.n153_ntmps ρ
 go_wp2_with (go_at_fn (ρ.f 226);refine(Any.strings_shouldUseASCIISet {L with} _ _).mono ?_;rintro e w' ⟨rfl,hw⟩;rw[hw,h8z])
 go_loopg [9,10] s.size (fun g _ _ wx=>∃i:Nat,i<=s.size/\s.size-i<=g/\wx.heap[w.heap.size]? =some (.stringIter s i)/\Aside (Below w.heap.size w wx)/\Aside (Lib.NoAny s.data.toList chars.data.toList i))
 case atStart=>exact⟨0,by omega,by omega,World.iter_heap _ _ _,(Below.refl _ _).alloc (Nat.le_refl _) _,Lib.NoAny.zero _ _⟩
 case round=>
  obtain⟨i,hi,hg,hk,py,HN⟩:=hrel;by_cases hlt:i<s.size
  ·obtain⟨x,hx⟩:∃x:UInt8,s[i]'hlt=x:=⟨_,rfl⟩;have hxl:s.data.toList[i]? =some x:=by rw[<-hx];exact Lib.data_getElem? s i hlt
   have Hx:Aside (s.data.toList[i]? =some x):=hxl;have hkl:=(Array.getElem?_eq_some_iff.1 hk).1;by_cases hx128:x.toNat<128
   ·have hnx:=fun ty=>run_next_ascii_at (P:=P) _ w.heap.size s i ty hk hlt (by rw[hx];exact hx128)
    rw[hx] at hnx;have hio:=iterAt_heap _ w.heap.size s i (i+1) hk;have hbo:Aside (Below w.heap.size w _):=below_iterAt py.out (Nat.le_refl _) s (i+1);clear hxl hx;have hcon:=Lib.contains_iff_indexByte chars.data.toList x;have hback:((x.toNat:Int)).toNat.toUInt8=x:=by simp
    cases hin:chars.data.toList.contains x
    ·rw[hin] at hcon;have hlt2:¬((0:Int)<=Lib.indexByte chars.data.toList x):=of_decide_eq_false hcon.symm;clear hcon
     go_wp2_with (go_at_fn (ρ.f 152);refine(Any.strings_IndexRune_ascii {L with} _ _ _ (by omega) (by omega)).mono ?_;rintro e w' ⟨rfl,hw⟩;rw[hw,hback])
     go_roundg (s.size-(i+1))
     case measure=>omega
     case rel=>exact⟨i+1,by omega,by omega,hio,hbo,HN.out.succ Hx.out hin⟩
    ·rw[hin] at hcon;have hge:(0:Int)<=Lib.indexByte chars.data.toList x:=of_decide_eq_true hcon.symm;clear hcon
     go_wp2_with (go_at_fn (ρ.f 152);refine(Any.strings_IndexRune_ascii {L with} _ _ _ (by omega) (by omega)).mono ?_;rintro e w' ⟨rfl,hw⟩;rw[hw,hback])
     go_ret
     exact⟨by rw[Lib.indexAny_hit HN.out Hx.out hin];rfl,hbo.out⟩
   ·have hhi:128<=(s[i]'hlt).toNat:=by rw[hx];omega
    have hnx:=fun ty=>run_next_any_at (P:=P) _ w.heap.size s i ty hk hlt
    have hd1:=decode_high s i hlt hhi;have hd2:=decode_le s i;have hsk:Aside (∀j,j<(Utf8.decode s i).2->i+j<s.size/\∀b,s.data.toList[i+j]? =some b->128<=b.toNat):=aal s i hlt hhi;generalize(Utf8.decode s i).1=c at hnx hd1 hd2;generalize(Utf8.decode s i).2=d at hnx hd1 hsk;have hle:i+d<=s.size:=by
     have:=(hsk.out (d-1) (by omega)).1
     omega
    have hio:=iterAt_heap _ w.heap.size s i (i+d) hk;have hbo:Aside (Below w.heap.size w _):=below_iterAt py.out (Nat.le_refl _) s (i+d);have hno:Aside (Lib.NoAny s.data.toList chars.data.toList (i+d)):=fun j b hj hb=>by
     by_cases hji:j<i
     ·exact HN.out j b hji hb
     ·have h3:=(hsk.out (j-i) (by omega)).2 b (by rw[show i+(j-i)=j by omega];exact hb)
      cases hc:chars.data.toList.contains b with
      |false=>rfl
      |true=>
       have hm:b∈chars.data.toList:=by simpa using hc
       obtain⟨k,hk2⟩:=List.getElem?_of_mem hm;have:=HA.out k b hk2;omega
    have hneg:¬((0:Int)<=-1):=by decide
    have hc0:(128:Int)<=(c:Int):=by omega
    have hc1:((c:Nat):Int)<=2147483647:=by omega
    clear hxl hx
    go_wp2_with (go_at_fn (ρ.f 152);refine(Any._s {L with} _ _ _ hc0 hc1 hcs HA.out).mono ?_;rintro e w' ⟨rfl,hbw⟩)
    go_roundg (s.size-(i+d))
    case measure=>omega
    case rel=>exact⟨i+d,hle,by omega,(hbw.block _ (by simpa[iterAt_size] using hkl)).trans hio,hbo.out.trans (hbw.mono (by rw[iterAt_size];omega)),hno.out⟩
  ·obtain rfl:i=s.size:=by omega
   have hnx:=fun ty=>run_next_end_at (P:=P) _ w.heap.size s s.size ty hk (by omega)
   go_wp2
   go_ret
   exact⟨by rw[Lib.indexAny_none (by rw[<-Lib.size_eq];exact HN.out)];rfl,py.out⟩
theorem Any._u(L:Lays.n153 P ρ)(h116:(P.info? (ρ.t 116)).map (fun i=>(i.zero,i.size))=some (some (.agg (Array.replicate 256 (.bool false))),256))(s chars:ByteArray)(w:World)(hs:s.size<4294967281)(h2:2<=chars.size)(hcs:chars.size<=1000000)(hac:o_ chars):
  Calls P (ρ.f 153) #[.string s,.string chars] w fun e w'=>e=.returned (.int .i64 (Lib.indexAny s.data.toList chars.data.toList))/\Below w.heap.size w w':=by
 by_cases h8:s.size<=8
 ·exact Any.ZC L s chars w h2 h8 hcs hac
 ·refine(Any.strings_IndexAny_long L (zero_of_info h116).1 (zero_of_info h116).2 s chars w h2 (by omega) hs (by omega) hac).mono fun e w' ⟨h1,h2⟩=>⟨h1,?_⟩
  rw[h2];exact((Below.refl _ _).alloc (Nat.le_refl _) _).alloc (by simp) _
end Go.Proofs
namespace Go.Proofs
open Go.Jk
noncomputable def R':aH:=Dh
theorem ai8:aG U 214 R':=adg (fun _ _=>enters_of Tryz.func214 (by kernel_rfl) rfl _ _) fun s p w h1 h2 h3 aw=>Any._u Tryz.agX (by kernel_rfl) s p w h1 h2 h3 aw
noncomputable abbrev am0:bi:=[(102,vM),(214,R'),(215,U0)]
theorem V7:a_ U (bg aj am0):=bf ⟨Bi,ai8,akv,⟨⟩⟩
abbrev PJ:Shape:=⟨[ao 0,aM 2 2 0,aM 4 4 0],[aL 2 [ai,bq,ai],aL 4 [ai,bq,ai]],49⟩
abbrev Pr:List aO:=[(.norm,⟨[aM 2 2 0,aM 4 4 0],[aL 2 [ai,bq,ai],aL 4 [ai,bq,ai]],49⟩),(.ret,⟨[aM 2 2 0,au 3],[aL 2 [ai,bq,ai]],49⟩)]
noncomputable def mv(y:PJ.J):Option (aD Pr):=
(qm y.1.1 ([61,60,62]:F)).bind fun a=>
 bif(decide ((Lib.indexAny y.1.1 ([61,60,62]:F))>=(0:Int))) then
(br y.1.1 (0:Int) (Lib.indexAny y.1.1 ([61,60,62]:F))).bind fun b=>
(br y.1.1 (Lib.indexAny y.1.1 ([61,60,62]:F)) (y.1.1.length:Int)).bind fun c=>
(f215 ((c,([62,61]:F),()),())).bind fun d=>
 bif d.1.1 then
(br c (2:Int) (c.length:Int)).bind fun e=>
 some (.inl (((),(),()),(y.2.1.1,y.2.1.2.1,y.2.1.2.2.1,()),(b,(2:Int),e,()),()))
else
(aU c (0:Int)).bind fun f=>
 bif((f.toNat:Int)==(61:Int)) then
(br c (1:Int) (c.length:Int)).bind fun g=>
 some (.inl (((),(),()),(y.2.1.1,y.2.1.2.1,y.2.1.2.2.1,()),(b,(1:Int),g,()),()))
else
(aU c (0:Int)).bind fun h=>
 bif((h.toNat:Int)==(60:Int)) then
(br c (1:Int) (c.length:Int)).bind fun i=>
 some (.inl (((),(),()),(y.2.1.1,y.2.1.2.1,y.2.1.2.2.1,()),(b,(3:Int),i,()),()))
else
 some (.inr (((),false,()),(([]:F),(0:Int),([]:F),()),()))
else
 some (.inl (((),(),()),(y.2.1.1,y.2.1.2.1,y.2.1.2.2.1,()),(y.2.2.1.1,y.2.2.1.2.1,y.2.2.1.2.2.1,()),()))
theorem agp:aY U (an (codeOf Tryz.f169) 1 14) (a' PJ Pr mv):=cW V7 (by kernel_rfl) ag fun y=>by kernel_rfl
abbrev i169:Shape:=⟨[ao 0],[],49⟩
abbrev To:Shape:=⟨[aM 2 2 0,au 3],[aL 2 [ai,bq,ai]],49⟩
noncomputable def f169(a:i169.J):Option To.J:=
(mv ((a.1.1,(),(),()),(([]:F),(0:Int),([]:F),()),(a.1.1,(0:Int),([]:F),()),())).bind fun b=>
(match b with
|.inl c=>
(f102 (((c.2.2.1.1,c.2.2.1.2.1,c.2.2.1.2.2.1,()),()),())).bind fun d=>
 bif(!d.1.1) then
 some (((),false,()),(([]:F),(0:Int),([]:F),()),())
else
 some (((),true,()),(c.2.2.1.1,c.2.2.1.2.1,c.2.2.1.2.2.1,()),())
|.inr e=>
 some (((),e.1.2.1,()),(e.2.1.1,e.2.1.2.1,e.2.1.2.2.1,()),()))
noncomputable def Vm:aH:=aP aj Tryz.f169 i169 To [] f169
theorem akN:aG U 169 Vm:=aS V7 Tryz.func169 (by kernel_rfl) (ba agp ag) (fun y=>by kernel_rfl) fun a=>by kernel_rfl
def eJ:F:=[61,60,62]
theorem N8:∀s:F,((∀y,y∈s->eJ.contains y=false)/\Lib.indexAny s eJ=-1)\/∃a x r,s=a++x::r/\eJ.contains x=true/\(∀y,y∈a->eJ.contains y=false)/\Lib.indexAny s eJ=(a.length:Int):=by
 intro s;induction s with
 |nil=>exact .inl ⟨fun y h=>(by cases h),rfl⟩
 |cons b l ih=>
  unfold Lib.indexAny;cases hb:eJ.contains b with
  |true=>exact .inr ⟨[],b,l,rfl,hb,fun y h=>(by cases h),rfl⟩
  |false=>
   rcases ih with⟨h1,h2⟩|⟨a,x,r,h1,h2,h3,aw⟩
   ·refine .inl ⟨fun y hy=>?_,?_⟩
    ·rcases List.mem_cons.1 hy with rfl|hy
     ·exact hb
     ·exact h1 y hy
    ·rw[h2];simp
   ·refine .inr ⟨b::a,x,r,by rw[h1];rfl,h2,fun y hy=>?_,?_⟩
    ·rcases List.mem_cons.1 hy with rfl|hy
     ·exact hb
     ·exact h3 y hy
    ·rw[aw];have:((a.length:Int)==-1)=false:=by rw[beq_eq_false_iff_ne];omega
     simp[this]
theorem aho{a r:F}{x:UInt8}(ha:∀y,y∈a->eJ.contains y=false)(hx:eJ.contains x=true):Lib.indexAny (a++x::r) eJ=(a.length:Int):=by
 induction a with
 |nil=>show Lib.indexAny (x::r) eJ=_;unfold Lib.indexAny;rw[hx];rfl
 |cons b a ih=>
  show Lib.indexAny (b::(a++x::r)) eJ=_;unfold Lib.indexAny;have hb:=ha b List.mem_cons_self;rw[hb,ih fun y hy=>ha y (List.mem_cons_of_mem _ hy)]
  have:((a.length:Int)==-1)=false:=by rw[beq_eq_false_iff_ne];omega
  simp[this]
theorem aiO{s:F}(h:∀y,y∈s->eJ.contains y=false):Lib.indexAny s eJ=-1:=by
 rcases N8 s with⟨_,h2⟩|⟨a,x,r,h1,h2,_,_⟩
 ·exact h2
 ·have:=h x (by rw[h1];simp)
  rw[h2] at this;cases this
theorem afz{s:F}(h:s.length<=1000000):qm s ([61,60,62]:F)=some ():=by
 unfold qm;exact if_pos ⟨by omega,by decide,by decide,by decide⟩
def oO(a t:F):Option bB:=match t with
 |62::61::r=>some ⟨a,2,r⟩
 |61::r=>some ⟨a,1,r⟩
 |60::r=>some ⟨a,3,r⟩
 |_=>none
def km(s:F):Option bB:=match Lib.indexAny s eJ with
 |.ofNat k=>oO (s.take k) (s.drop k)
 |_=>some ⟨s,0,[]⟩
def eB(s:F):Option bB:=match km s with
 |some n=>bif du n then some n else none
 |none=>none
def h_:bB:=⟨[],0,[]⟩
theorem M8(s:F)(hs:s.length<=1000000):f169 ((s,()),())=some (((),((eB s).isSome,())),((((eB s).getD h_).name,(((eB s).getD h_).kind,(((eB s).getD h_).aV,()))),())):=by
 have hk:∀n:bB,n.name.length<=1000000->n.aV.length<=1000000->f102 (((n.name,(n.kind,(n.aV,()))),()),())=some ((du n,()),()):=fun n h1 h2=>
  xy (((n.name,(n.kind,(n.aV,()))),()),()) (by show n.name.length<=2097152;omega) (by show n.aV.length<=2097152;omega)
 have fin:∀n:bB,n.name.length<=1000000->n.aV.length<=1000000->km s=some n->
   mv ((s,((),((),()))),((([]:F),((0:Int),(([]:F),()))),((s,((0:Int),(([]:F),()))),())))=some (.inl (((),((),())),((([]:F),((0:Int),(([]:F),()))),((n.name,(n.kind,(n.aV,()))),()))))->
   f169 ((s,()),())=some (((),((eB s).isSome,())),((((eB s).getD h_).name,(((eB s).getD h_).kind,(((eB s).getD h_).aV,()))),())):=by
  intro n h1 h2 hr hg;have tr:=hk n h1 h2;have hG:eB s=bif du n then some n else none:=by unfold eB;rw[hr]
  simp only[f169,hg,Option.bind_some,tr,hG];cases du n<;>rfl
 have dZ:qm s ([61,60,62]:F)=some ():=afz hs;rcases N8 s with⟨_,h2⟩|⟨a,x,r,h1,h2,h3,aw⟩
 ·refine fin ⟨s,0,[]⟩ hs (by simp) (by unfold km;rw[h2];rfl) ?_
  have h2:Lib.indexAny s ([61,60,62]:F)=-1:=h2;have Z:decide ((-1:Int)>=0)=false:=rfl;simp only[mv,dZ,Option.bind_some,h2,Z,cond_false]
 ·have n9:Lib.indexAny s ([61,60,62]:F)=(a.length:Int):=aw;have Z:decide ((a.length:Int)>=0)=true:=decide_eq_true (by omega)
  have hl:s.length=a.length+(x::r).length:=by rw[h1];simp
  have e1:br s 0 ((a.length:Nat):Int)=some a:=by rw[gI (by omega),h1];simp
  have e2:br s ((a.length:Nat):Int) ((s.length:Nat):Int)=some (x::r):=by rw[gu (by omega),h1];simp
  have hp:=Z' (x::r) [62,61];have nY:aU (x::r) (0:Int)=some x:=rfl;have dK:km s=oO a (x::r):=by
   unfold km;rw[aw];have d1:s.drop a.length=x::r:=by rw[h1];simp
   have d2:s.take a.length=a:=by rw[h1];simp
   show oO (s.take a.length) (s.drop a.length)=_;rw[d1,d2]
  have no:km s=none->mv ((s,((),((),()))),((([]:F),((0:Int),(([]:F),()))),((s,((0:Int),(([]:F),()))),())))=some (.inr (((),(false,())),((([]:F),((0:Int),(([]:F),()))),())))->
    f169 ((s,()),())=some (((),((eB s).isSome,())),((((eB s).getD h_).name,(((eB s).getD h_).kind,(((eB s).getD h_).aV,()))),())):=by
   intro hr hg;simp only[f169,hg,Option.bind_some];unfold eB;rw[hr];rfl
  have hx:x=61\/x=60\/x=62:=by simpa[eJ] using h2
  have tz:a.length<=1000000:=by omega
  have mU:r.length<=1000000:=by simp at hl;omega
  rcases hx with rfl|rfl|rfl
  ·have hn:dM [62,61] (61::r)=none:=by unfold dM;cases r<;>simp
   rw[hn] at hp;refine fin ⟨a,1,r⟩ tz mU dK ?_
   have bp:br (61::r) 1 (((61::r).length:Nat):Int)=some r:=gu (xs:=61::r) (a:=1) (by simp)
   have t1:((((61:UInt8).toNat:Nat):Int)==61)=true:=rfl;simp only[mv,dZ,Option.bind_some,n9,Z,cond_true,e1,e2,hp,Option.isSome_none,cond_false,nY,t1,bp]
  ·have hn:dM [62,61] (60::r)=none:=by unfold dM;cases r<;>simp
   rw[hn] at hp;refine fin ⟨a,3,r⟩ tz mU dK ?_
   have bp:br (60::r) 1 (((60::r).length:Nat):Int)=some r:=gu (xs:=60::r) (a:=1) (by simp)
   have t1:((((60:UInt8).toNat:Nat):Int)==61)=false:=rfl;have t2:((((60:UInt8).toNat:Nat):Int)==60)=true:=rfl;simp only[mv,dZ,Option.bind_some,n9,Z,cond_true,e1,e2,hp,Option.isSome_none,cond_false,nY,t1,t2,bp]
  ·have t1:((((62:UInt8).toNat:Nat):Int)==61)=false:=rfl;have t2:((((62:UInt8).toNat:Nat):Int)==60)=false:=rfl;cases r with
   |nil=>
    have hn:dM [62,61] ([62]:F)=none:=by decide
    rw[hn] at hp;refine no dK ?_
    simp only[mv,dZ,Option.bind_some,n9,Z,cond_true,e1,e2,hp,Option.isSome_none,cond_false,nY,t1,t2]
   |cons b r=>
    by_cases hb:b=61
    ·subst hb;have hn:dM [62,61] (62::61::r)=some r:=uj [62,61] r;rw[hn] at hp;refine fin ⟨a,2,r⟩ tz (by simp at mU;show r.length<=1000000;omega) dK ?_
     have bp:br (62::61::r) 2 (((62::61::r).length:Nat):Int)=some r:=gu (xs:=62::61::r) (a:=2) (by simp)
     simp only[mv,dZ,Option.bind_some,n9,Z,cond_true,e1,e2,hp,Option.isSome_some,bp]
    ·have hn:dM [62,61] (62::b::r)=none:=by
      have hb2:(b==61)=false:=by simpa using hb
      unfold dM;simp[hb2]
     rw[hn] at hp;refine no (dK.trans ?_) ?_
     ·unfold oO;split
      ·rename_i h;simp at h;exact absurd h.1 hb
      ·rename_i h;simp at h
      ·rename_i h;simp at h
      ·rfl
     ·simp only[mv,dZ,Option.bind_some,n9,Z,cond_true,e1,e2,hp,Option.isSome_none,cond_false,nY,t1,t2]
theorem Oz{s:F}(h:∀x,x∈s->(97<=x.toNat/\x.toNat<=122)\/(48<=x.toNat/\x.toNat<=57)):∀y,y∈s->eJ.contains y=false:=by
 intro y hy;have:=h y hy;cases hc:eJ.contains y with
 |false=>rfl
 |true=>
  have hx:y=61\/y=60\/y=62:=by simpa[eJ] using hc
  rcases hx with rfl|rfl|rfl<;>simp at this
theorem acp{n:bB}(h:du n=true):km (cH n)=some n:=by
 obtain⟨h1,h2⟩:=xb h;have hno:=Oz (C0 h1);obtain⟨bE,k,v⟩:=n;have key:∀(x:UInt8) (t:F),eJ.contains x=true->km (bE++x::t)=oO bE (x::t):=by
  intro x t hx;unfold km;rw[aho hno hx];have d1:(bE++x::t).drop bE.length=x::t:=by simp
  have d2:(bE++x::t).take bE.length=bE:=by simp
  show oO ((bE++x::t).take bE.length) ((bE++x::t).drop bE.length)=_;rw[d1,d2]
 rcases h2 with⟨hk,hv⟩|⟨hk,hv⟩
 ·have hk:k=0:=hk;have hv:v=[]:=hv;subst hk hv;have e:cH ⟨bE,0,[]⟩=bE:=by unfold cH dE;simp
  rw[e];unfold km;rw[aiO hno];rfl
 ·rcases hk with hk|hk|hk
  ·have hk:k=1:=hk;subst hk;have e:cH ⟨bE,1,v⟩=bE++61::v:=by unfold cH dE;simp
   rw[e,key 61 v (by decide)];rfl
  ·have hk:k=2:=hk;subst hk;have e:cH ⟨bE,2,v⟩=bE++62::61::v:=by unfold cH dE;simp
   rw[e,key 62 (61::v) (by decide)];rfl
  ·have hk:k=3:=hk;subst hk;have e:cH ⟨bE,3,v⟩=bE++60::v:=by unfold cH dE;simp
   rw[e,key 60 v (by decide)];rfl
theorem afa{n:bB}(h:du n=true):eB (cH n)=some n:=by
 unfold eB;rw[acp h];simp[h]
noncomputable abbrev amZ:bi:=[(114,vK),(115,BE),(216,UZ)]
theorem BM:a_ U (bg aj amZ):=bf ⟨Bh,H6,aku,⟨⟩⟩
abbrev PI:Shape:=⟨[aM 2 2 0,ao 3,au 4,ao 6,au 7,aK 8 .str],[aL 2 [ai,bq,bq,ai]],110⟩
abbrev Pq:List aO:=[(.norm,⟨[aM 2 2 0,ao 3,au 4,ao 6,aK 8 .str,au 26],[aL 2 [ai,bq,bq,ai]],110⟩)]
noncomputable def uK(y:PI.J):Option (aD Pq):=
 bif(!(!y.1.2.2.2.2.1)) then
 some (((),y.1.2.1,y.1.2.2.1,y.1.2.2.2.1,y.1.2.2.2.2.2.1,(decide ((y.1.2.2.2.2.2.1.length:Int)<(3:Int))),()),(y.2.1.1,y.2.1.2.1,y.2.1.2.2.1,y.2.1.2.2.2.1,()),())
else
 some (((),y.1.2.1,y.1.2.2.1,y.1.2.2.2.1,y.1.2.2.2.2.2.1,true,()),(y.2.1.1,y.2.1.2.1,y.2.1.2.2.1,y.2.1.2.2.2.1,()),())
theorem ago:aY U (an (codeOf Tryz.f170) 1 60) (a' PI Pq uK):=cW BM (by kernel_rfl) ag fun y=>by kernel_rfl
abbrev Nw:Shape:=⟨[aM 2 2 0,ao 3,au 4,ao 6,aK 8 .str,ae 9],[aL 2 [ai,bq,bq,ai]],110⟩
abbrev Nc:List aO:=[(.norm,⟨[aM 2 2 0,ao 3,au 4,ao 6,aK 8 .str,ae 9,au 74],[aL 2 [ai,bq,bq,ai]],110⟩)]
noncomputable def D1(y:Nw.J):Option (aD Nc):=
(aU y.1.2.2.2.2.1 (0:Int)).bind fun a=>
 bif(!(!(a==([102,105,108,101]:F)))) then
 some (((),y.1.2.1,y.1.2.2.1,y.1.2.2.2.1,y.1.2.2.2.2.1,y.1.2.2.2.2.2.1,((y.1.2.2.2.2.1.length:Int) !=(4:Int)),()),(y.2.1.1,y.2.1.2.1,y.2.1.2.2.1,y.2.1.2.2.2.1,()),())
else
 some (((),y.1.2.1,y.1.2.2.1,y.1.2.2.2.1,y.1.2.2.2.2.1,y.1.2.2.2.2.2.1,true,()),(y.2.1.1,y.2.1.2.1,y.2.1.2.2.1,y.2.1.2.2.2.1,()),())
theorem acC:aY U (an (codeOf Tryz.f170) 1 2044) (a' Nw Nc D1):=cW BM (by kernel_rfl) ag fun y=>by kernel_rfl
abbrev Nv:Shape:=⟨[aM 2 2 0,ao 3,au 4,ao 6,aK 8 .str,ae 9,au 10,ae 11],[aL 2 [ai,bq,bq,ai]],110⟩
abbrev Nb:List aO:=[(.norm,⟨[aM 2 2 0,ao 3,au 4,ao 6,aK 8 .str,ae 9,ae 11,au 96],[aL 2 [ai,bq,bq,ai]],110⟩)]
noncomputable def D0(y:Nv.J):Option (aD Nb):=
 bif(!(!y.1.2.2.2.2.2.2.1)) then
 bif(!(decide ((y.1.2.2.2.1.length:Int)<=y.1.2.2.2.2.2.2.2.1))) then
(aU y.1.2.2.2.1 y.1.2.2.2.2.2.2.2.1).bind fun a=>
 some (((),y.1.2.1,y.1.2.2.1,y.1.2.2.2.1,y.1.2.2.2.2.1,y.1.2.2.2.2.2.1,y.1.2.2.2.2.2.2.2.1,((a.toNat:Int) !=(10:Int)),()),(y.2.1.1,y.2.1.2.1,y.2.1.2.2.1,y.2.1.2.2.2.1,()),())
else
 some (((),y.1.2.1,y.1.2.2.1,y.1.2.2.2.1,y.1.2.2.2.2.1,y.1.2.2.2.2.2.1,y.1.2.2.2.2.2.2.2.1,true,()),(y.2.1.1,y.2.1.2.1,y.2.1.2.2.1,y.2.1.2.2.2.1,()),())
else
 some (((),y.1.2.1,y.1.2.2.1,y.1.2.2.2.1,y.1.2.2.2.2.1,y.1.2.2.2.2.2.1,y.1.2.2.2.2.2.2.2.1,true,()),(y.2.1.1,y.2.1.2.1,y.2.1.2.2.1,y.2.1.2.2.2.1,()),())
theorem acB:aY U (an (codeOf Tryz.f170) 1 8188) (a' Nv Nb D0):=cW BM (by kernel_rfl) ag fun y=>by kernel_rfl
abbrev i170:Shape:=⟨[ao 0],[],110⟩
abbrev Ik:Shape:=⟨[aM 2 2 0,ao 3,au 4],[aL 2 [ai,bq,bq,ai]],110⟩
noncomputable def f170(a:i170.J):Option Ik.J:=
(f114 ((a.1.1,([10]:F),()),())).bind fun b=>
(f216 ((b.1.1,([32]:F),(5:Int),()),())).bind fun c=>
(uK (((),([]:F),false,b.1.2.1,b.1.2.2.1,c.1.1,()),(([]:F),(0:Int),(0:Int),([]:F),()),())).bind fun d=>
 bif d.1.2.2.2.2.2.1 then
 some (((),([]:F),false,()),(([]:F),(0:Int),(0:Int),([]:F),()),())
else
(aU d.1.2.2.2.2.1 (0:Int)).bind fun e=>
 bif(e==([108,105,110,107]:F)) then
(aU d.1.2.2.2.2.1 (1:Int)).bind fun f=>
(aU d.1.2.2.2.2.1 (2:Int)).bind fun g=>
 some (((),d.1.2.2.2.1,((d.1.2.2.2.2.1.length:Int)==(3:Int)),()),(f,(3:Int),(0:Int),g,()),())
else
(aU d.1.2.2.2.2.1 (1:Int)).bind fun h=>
(f115 ((h,(7:Int),()),())).bind fun i=>
 bif(!i.1.2.1) then
 some (((),([]:F),false,()),(([]:F),(0:Int),(0:Int),([]:F),()),())
else
(aU d.1.2.2.2.2.1 (0:Int)).bind fun j=>
 bif(j==([100,105,114]:F)) then
(aU d.1.2.2.2.2.1 (2:Int)).bind fun k=>
 some (((),d.1.2.2.2.1,((d.1.2.2.2.2.1.length:Int)==(3:Int)),()),(k,(1:Int),i.1.1,([]:F),()),())
else
(D1 (((),d.1.2.1,d.1.2.2.1,d.1.2.2.2.1,d.1.2.2.2.2.1,i.1.1,()),(d.2.1.1,d.2.1.2.1,d.2.1.2.2.1,d.2.1.2.2.2.1,()),())).bind fun l=>
 bif l.1.2.2.2.2.2.2.1 then
 some (((),([]:F),false,()),(([]:F),(0:Int),(0:Int),([]:F),()),())
else
(aU l.1.2.2.2.2.1 (3:Int)).bind fun m=>
(f115 ((m,(80:Int),()),())).bind fun n=>
(D0 (((),l.1.2.1,l.1.2.2.1,l.1.2.2.2.1,l.1.2.2.2.2.1,l.1.2.2.2.2.2.1,n.1.2.1,n.1.1,()),(l.2.1.1,l.2.1.2.1,l.2.1.2.2.1,l.2.1.2.2.2.1,()),())).bind fun B=>
 bif B.1.2.2.2.2.2.2.2.1 then
 some (((),([]:F),false,()),(([]:F),(0:Int),(0:Int),([]:F),()),())
else
(aU B.1.2.2.2.2.1 (2:Int)).bind fun p=>
(br B.1.2.2.2.1 (0:Int) B.1.2.2.2.2.2.2.1).bind fun q=>
(br B.1.2.2.2.1 (IntKind.i64.wrap (B.1.2.2.2.2.2.2.1+(1:Int))) (B.1.2.2.2.1.length:Int)).bind fun r=>
 some (((),r,true,()),(p,(2:Int),B.1.2.2.2.2.2.1,q,()),())
noncomputable def Vl:aH:=aP aj Tryz.f170 i170 Ik [] f170
theorem akM:aG U 170 Vl:=aS BM Tryz.func170 (by kernel_rfl) (ba ago (ba acC (ba acB ag))) (fun y=>by kernel_rfl) fun a=>by kernel_rfl
def AV(aN w2 cm r:F):Option (az×F):=bif e8 80 cm then(match r.drop (c9 cm).toNat with|10::ez=>some (⟨w2,2,c9 aN,r.take (c9 cm).toNat⟩,ez)|_=>none) else none
def jv(ws:List F)(r:F):Option (az×F):=match ws with
 |O::aN::w2::more=>
  bif O==hD then(bif more==[] then some (⟨aN,3,0,w2⟩,r) else none)
  else bif e8 7 aN then
   (bif O==hI then(bif more==[] then some (⟨w2,1,c9 aN,[]⟩,r) else none)
   else bif O==hZ then(match more with|[cm]=>AV aN w2 cm r|_=>none) else none)
  else none
 |_=>none
def mD(s:F):Option (az×F):=match dk 10 s with
 |some (bO,r)=>jv (splitN 32 4 bO) r
 |none=>none
theorem aav{m:Int}{s:F}(h:e8 m s=true):0<=c9 s/\c9 s<=m:=by
 unfold e8 at h;simp only[Bool.and_eq_true,decide_eq_true_eq] at h;refine⟨?_,h.2⟩;have key:∀(s:F) (n:Int),s.all cI=true->0<=n->0<=s.foldl dU n:=by
  intro s;induction s with
  |nil=>intro n _ h;exact h
  |cons b s ih=>
   intro n Z hn;simp only[List.all_cons,Bool.and_eq_true] at Z;have hb:=ix Z.1;refine ih _ Z.2 ?_
   unfold dU;omega
 exact key s 0 h.1.1.1.1 (by decide)
theorem pC(c:UInt8):∀(k:Nat) (s p:F),p∈splitN c k s->p.length<=s.length:=by
 intro k;induction k with
 |zero=>intro s p h;simp[splitN] at h;subst h;exact Nat.le_refl _
 |succ k ih=>
  intro s p h;unfold splitN at h;cases hc:dk c s with
  |none=>rw[hc] at h;simp at h;subst h;exact Nat.le_refl _
  |some q=>
   obtain⟨x,y⟩:=q;rw[hc] at h;have hl:=(iV hc).1;have hl:s.length=x.length+1+y.length:=by rw[hl];simp;omega
   rcases List.mem_cons.1 h with rfl|h
   ·omega
   ·have:=ih y p h;omega
theorem alD{ax:Type}(a b c:ax)(l:List ax):decide (((a::b::c::l).length:Int)<3)=false:=decide_eq_false (by simp;omega)
theorem aqR{ax:Type}[BEq ax](a b c:ax)(l:List ax):(((a::b::c::l).length:Int)==3)=(l==[]):=by
 cases l with
 |nil=>rfl
 |cons x l=>
  have h:((x::l)==([]:List ax))=false:=rfl;rw[h,beq_eq_false_iff_ne];simp;omega
theorem L7(s:F)(hs:s.length<=1000000):∃(r:F) (e:az),f170 ((s,()),())=some (((),(r,((mD s).isSome,()))),((e.path,(e.kind,(e.mode,(e.text,())))),()))/\∀q,mD s=some q->q=(e,r):=by
 have hc:=mA 10 s (by unfold ap;omega)
 have hc:f114 ((s,(([10]:F),())),())=_:=hc;have zero:∀{B:Option (az×F)} {x:Option Ik.J},B=none->x=some (((),(([]:F),(false,()))),((([]:F),((0:Int),((0:Int),(([]:F),())))),()))->
   ∃(r:F) (e:az),x=some (((),(r,(B.isSome,()))),((e.path,(e.kind,(e.mode,(e.text,())))),()))/\∀q,B=some q->q=(e,r):=by
  intro B x aE hx;subst aE;exact⟨[],⟨[],0,0,[]⟩,hx,fun q ar=>by cases ar⟩
 cases ar:dk 10 s with
 |none=>
  have hw:=M6 (gS 10 s) (by unfold gS;rw[ar];show s.length<=1000000000;omega)
  rw[ar] at hc;refine zero (by unfold mD;rw[ar]) ?_
  simp only[f170,hc,Option.bind_some,hw,uK,Option.isSome_none,Bool.not_false,Bool.not_true,cond_false,cond_true]
 |some q=>
  obtain⟨bO,rest⟩:=q;have hl:=(iV ar).1;have hl:s.length=bO.length+1+rest.length:=by rw[hl];simp;omega
  have ha:gS 10 s=bO:=by unfold gS;rw[ar]
  have hb:gR 10 s=rest:=by unfold gR;rw[ar]
  have hw:=M6 bO (by omega)
  rw[ar,ha,hb] at hc;have hr:mD s=jv (splitN 32 4 bO) rest:=by unfold mD;rw[ar]
  have hm:=pC 32 4 bO;rw[hr];generalize splitN 32 4 bO=ws at hw hm;have short:decide ((ws.length:Int)<3)=true->jv ws rest=none->∃(r:F) (e:az),f170 ((s,()),())=some (((),(r,((jv ws rest).isSome,()))),((e.path,(e.kind,(e.mode,(e.text,())))),()))/\∀q,jv ws rest=some q->q=(e,r):=by
   intro h1 h2;refine zero h2 ?_
   simp only[f170,hc,Option.bind_some,hw,uK,Option.isSome_some,Bool.not_false,Bool.not_true,cond_false,cond_true,h1]
  match ws,short,hw,hm with
  |[],short,hw,hm=>exact short rfl rfl
  |[_],short,hw,hm=>exact short rfl rfl
  |[_,_],short,hw,hm=>exact short rfl rfl
  |O::aN::w2::more,_,hw,hm=>
   have e3:aU (O::aN::w2::more) (0:Int)=some O:=rfl;have dX:aU (O::aN::w2::more) (1:Int)=some aN:=rfl;have fI:aU (O::aN::w2::more) (2:Int)=some w2:=rfl;have h3:=alD O aN w2 more;have cU:=aqR O aN w2 more;have m1:=hm aN (by simp)
   have n1:=xv aN 7 (by unfold ap;omega)
   simp only[f170,hc,Option.bind_some,hw,uK,Option.isSome_some,Bool.not_false,Bool.not_true,cond_false,cond_true,h3,e3,dX,fI,cU,n1];unfold jv;have A5:(O==([108,105,110,107]:F))=(O==hD):=rfl;have vD:(O==([100,105,114]:F))=(O==hI):=rfl;have sL:(O==([102,105,108,101]:F))=(O==hZ):=rfl;simp only[A5,vD];cases eI:O==hD with
   |true=>
    simp only[cond_true];refine⟨rest,⟨aN,3,0,w2⟩,?_,fun q ar=>?_⟩
    ·cases more==[]<;>rfl
    ·cases J5:more==[]<;>rw[J5] at ar<;>simp at ar
     exact ar.symm
   |false=>
    simp only[cond_false];cases CJ:e8 7 aN with
    |false=>
     simp only[Bool.not_false,cond_true,cond_false];exact zero rfl rfl
    |true=>
     simp only[Bool.not_true,cond_true,cond_false];cases CK:O==hI with
     |true=>
      simp only[cond_true];refine⟨rest,⟨w2,1,c9 aN,[]⟩,?_,fun q ar=>?_⟩
      ·cases more==[]<;>rfl
      ·cases J5:more==[]<;>rw[J5] at ar<;>simp at ar
       exact ar.symm
     |false=>
      simp only[cond_false,D1,e3,Option.bind_some,sL];cases auL:O==hZ with
      |false=>
       simp only[Bool.not_false,Bool.not_true,cond_true,cond_false,Option.bind_some];exact zero rfl rfl
      |true=>
       simp only[Bool.not_false,Bool.not_true,cond_true,cond_false,Option.bind_some];match more,hm,e3,dX,fI,h3,cU,hw with
       |[],hm,e3,dX,fI,h3,cU,hw=>exact zero rfl rfl
       |cm::q7::m,hm,e3,dX,fI,h3,cU,hw=>
        have:((((O::aN::w2::cm::q7::m).length:Nat):Int) !=4)=true:=by rw[bne_iff_ne];simp;omega
        simp only[this,cond_true];exact zero rfl rfl
       |[cm],hm,e3,dX,fI,h3,cU,hw=>
        have aw:(((([O,aN,w2,cm]:List F).length:Nat):Int) !=4)=false:=rfl;have jl:aU [O,aN,w2,cm] (3:Int)=some cm:=rfl;have m3:=hm cm (by simp)
        have iv:=xv cm 80 (by unfold ap;omega)
        simp only[aw,cond_false,jl,Option.bind_some,iv,D0];unfold AV;cases Ld:e8 80 cm with
        |false=>
         simp only[Bool.not_false,Bool.not_true,cond_true,cond_false,Option.bind_some];exact zero rfl rfl
        |true=>
         obtain⟨b1,b2⟩:=aav Ld;obtain⟨n,hn⟩:=Int.eq_ofNat_of_zero_le b1;simp only[Bool.not_false,Bool.not_true,cond_true,cond_false,Option.bind_some,hn,Int.toNat_natCast];rw[hn] at b2;by_cases hle:rest.length<=n
         ·have d1:decide (((rest.length:Nat):Int)<=(n:Int))=true:=decide_eq_true (by omega)
          have d2:rest.drop n=[]:=List.drop_eq_nil_of_le hle;simp only[d1,Bool.not_true,cond_false,Option.bind_some,cond_true,d2];exact zero rfl rfl
         ·have d1:decide (((rest.length:Nat):Int)<=(n:Int))=false:=decide_eq_false (by omega)
          obtain⟨b,ez,Z⟩:∃b ez,rest.drop n=b::ez:=by
           cases h:rest.drop n with
           |nil=>have:=List.drop_eq_nil_iff.1 h;omega
           |cons b ez=>exact⟨b,ez,rfl⟩
          have ap8:aU rest (n:Int)=some b:=by
           rw[bX];have:rest[n]? =(rest.drop n)[0]? :=by simp
           rw[this,Z];rfl
          simp only[d1,Bool.not_false,cond_true,ap8,Option.bind_some,Z];by_cases Ks:b=10
          ·subst Ks;have t:((((10:UInt8).toNat:Nat):Int) !=10)=false:=rfl;have s1:br rest 0 (n:Int)=some (rest.take n):=gI (by omega)
           have hw1:IntKind.i64.wrap ((n:Int)+1)=((n+1:Nat):Int):=bS (by unfold ap;omega)
           have dp:rest.drop (n+1)=ez:=by rw[<-List.drop_drop,Z];rfl
           have s2:br rest ((n+1:Nat):Int) ((rest.length:Nat):Int)=some ez:=by rw[gu (by omega),dp]
           simp only[t,cond_false,s1,hw1,s2,Option.bind_some];exact⟨ez,⟨w2,2,c9 aN,rest.take n⟩,rfl,fun q ar=>by simp at ar;exact ar.symm⟩
          ·have t:(((b.toNat:Nat):Int) !=10)=true:=by
            rw[bne_iff_ne];intro h;exact Ks (UInt8.toNat_inj.1 (by show b.toNat=10;omega))
           simp only[t,cond_true];refine zero ?_ rfl;split
           ·rename_i h;cases h;exact absurd rfl Ks
           ·rfl
noncomputable abbrev anv:bi:=[(105,vL),(170,Vl)]
theorem Ji:a_ U (bg aj anv):=bf ⟨z105,akM,⟨⟩⟩
abbrev NB:Shape:=⟨[bc 4 3000256,aM 6 6 0,ao 7,au 8],[bb 3000256 .entry 4 0,aL 6 [ai,bq,bq,ai]],34⟩
abbrev Ni:List aO:=[(.norm,⟨[bc 4 3000256,aM 6 6 0,ao 7,au 24],[bb 3000256 .entry 4 0,aL 6 [ai,bq,bq,ai]],34⟩)]
noncomputable def rJ(y:NB.J):Option (aD Ni):=
 bif(!(!y.1.2.2.2.1)) then
 some (((),(),y.1.2.2.1,((y.2.1.length:Int)==(16:Int)),()),y.2.1,(y.2.2.1.1,y.2.2.1.2.1,y.2.2.1.2.2.1,y.2.2.1.2.2.2.1,()),())
else
 some (((),(),y.1.2.2.1,true,()),y.2.1,(y.2.2.1.1,y.2.2.1.2.1,y.2.2.1.2.2.1,y.2.2.1.2.2.2.1,()),())
theorem acM:aY U (an (da (an (codeOf Tryz.f118) 1 60)) 120 3860) (a' NB Ni rJ):=cW Ji (by kernel_rfl) ag fun y=>by kernel_rfl
abbrev y7:Shape:=⟨[bc 4 3000256,ao 5],[bb 3000256 .entry 4 0],34⟩
abbrev FO:List aO:=[(.ret,⟨[bc 2 3000128,au 3],[bb 3000128 .entry 2 0],34⟩),(.exit 0,⟨[bc 4 3000256],[bb 3000256 .entry 4 0],34⟩)]
noncomputable def qa(y:y7.J):bR y7 FO:=
 bif(!(y.1.2.1==([]:F))) then
(f170 ((y.1.2.1,()),())).bind fun a=>
(rJ (((),(),a.1.2.1,a.1.2.2.1,()),y.2.1,(a.2.1.1,a.2.1.2.1,a.2.1.2.2.1,a.2.1.2.2.2.1,()),())).bind fun b=>
 bif b.1.2.2.2.1 then
 some (.inr (.inl (((),false,()),([]:List az),())))
else
(cy 48 b.2.1 ([(az.mk b.2.2.1.1 b.2.2.1.2.1 b.2.2.1.2.2.1 b.2.2.1.2.2.2.1)]:List az)).bind fun c=>
 some (.inl (((),b.1.2.2.1,()),c,()))
else
 some (.inr (.inr (((),()),y.2.1,())))
noncomputable def uF:y7.J->Option (aD FO):=bv qa
theorem agH:aY U (an (codeOf Tryz.f118) 1 60) (a' y7 FO uF):=bT Ji (by kernel_rfl) (ba acM ag) fun y=>by kernel_rfl
abbrev i118:Shape:=⟨[ao 0],[],34⟩
abbrev TV:Shape:=⟨[bc 2 3000128,au 3],[bb 3000128 .entry 2 0],34⟩
noncomputable def f118(a:i118.J):Option TV.J:=
(uF (((),a.1.1,()),([]:List az),())).bind fun b=>
(match b with
|.inl c=>
 some (((),c.1.2.1,()),c.2.1,())
|.inr d=>
(f105 ((d.2.1,()),())).bind fun e=>
 bif(!e.1.1) then
 some (((),false,()),([]:List az),())
else
 some (((),true,()),d.2.1,()))
noncomputable def VR:aH:=aP aj Tryz.f118 i118 TV [] f118
theorem ak4:aG U 118 VR:=aS Ji Tryz.func118 (by kernel_rfl) (ba agH ag) (fun y=>by kernel_rfl) fun a=>by kernel_rfl
theorem EE{n:Nat}{m:Int}(h:(n:Int)<=m)(hQ:n<1000000000):e8 m (Lib.itoa (n:Int))=true/\c9 (Lib.itoa (n:Int))=(n:Int):=by
 rw[pP];exact⟨aeT h hQ,GN n⟩
theorem LW(ws:List F)(k:Nat)(h:ws≠[])(hn:∀w,w∈ws->b7 32 w)(hk:ws.length<=k+1):splitN 32 k (k_ ws)=ws:=by
 have:=MT h hn;rw[xh 32 k _ (by rw[this];exact hk),this]
theorem NG{e:az}(h:eL e=true)(r:F):mD (ea e++r)=some (e,r):=by
 have hw:=(Dq h).1;unfold mD;rw[NO h];show jv (splitN 32 4 (oQ e)) (u_ e r)=_;obtain⟨n,hn,iw⟩:=EF h;obtain⟨g1,g2⟩:=EE (n:=n) (m:=7) (by omega) (by omega)
 have qG:splitN 32 4 (oQ e)=lL e:=LW _ 4 (by unfold lL;cases e.kind==1<;>cases e.kind==3<;>simp) hw (by unfold lL;cases e.kind==1<;>cases e.kind==3<;>simp)
 rw[qG];obtain⟨p,k,m,t⟩:=e;have hn:m=n:=hn;subst hn;rcases ub h with hk|hk|hk
 ·have hk:k=1:=hk;subst hk;have aq:t=[]:=NZ h rfl;subst aq;show jv [hI,Lib.itoa (n:Int),p] r=_;unfold jv;have e1:(hI==hD)=false:=by decide
  have e2:(hI==hI)=true:=by decide
  simp only[e1,e2,g1,g2,cond_true,cond_false];rfl
 ·have hk:k=2:=hk;subst hk;have hb:t.length<=80:=by
   have:=MX h rfl;unfold nC at this;simp only[Bool.and_eq_true,decide_eq_true_eq] at this;exact this.2
  obtain⟨aB,aA⟩:=EE (n:=t.length) (m:=80) (by omega) (by omega)
  show jv [hZ,Lib.itoa (n:Int),p,Lib.itoa (t.length:Int)] (t++10::r)=_;unfold jv;have e1:(hZ==hD)=false:=by decide
  have e2:(hZ==hI)=false:=by decide
  have bp:(hZ==hZ)=true:=by decide
  simp only[e1,e2,bp,g1,g2,cond_true,cond_false];unfold AV;have d1:(t++10::r).drop t.length=10::r:=by simp
  have d2:(t++10::r).take t.length=t:=by simp
  simp only[aB,aA,cond_true,Int.toNat_natCast,d1,d2,g2]
 ·have hk:k=3:=hk;subst hk;obtain⟨_,hm⟩:=Dn h rfl;have hm:(n:Int)=0:=hm;show jv [hD,p,t] r=_;unfold jv;have e1:(hD==hD)=true:=by decide
  simp only[e1,cond_true];rw[hm];rfl
theorem DI{s r:F}{e:az}(h:mD s=some (e,r)):e.path.length<=s.length/\e.text.length<=s.length/\r.length<s.length:=by
 unfold mD at h;cases ar:dk 10 s with
 |none=>rw[ar] at h;cases h
 |some q=>
  obtain⟨bO,rest⟩:=q;rw[ar] at h;have hl:=(iV ar).1;have hl:s.length=bO.length+1+rest.length:=by rw[hl];simp;omega
  have hm:=pC 32 4 bO;have h:jv (splitN 32 4 bO) rest=some (e,r):=h;generalize splitN 32 4 bO=ws at h hm;match ws,h,hm with
  |[],h,hm=>cases h
  |[_],h,hm=>cases h
  |[_,_],h,hm=>cases h
  |O::aN::w2::more,h,hm=>
   have m1:=hm aN (by simp)
   have m2:=hm w2 (by simp)
   unfold jv at h;simp only at h;cases eI:O==hD<;>simp only[eI,cond_true,cond_false] at h
   ·cases e1:e8 7 aN<;>simp only[e1,cond_true,cond_false] at h
    ·cases h
    ·cases e2:O==hI<;>simp only[e2,cond_true,cond_false] at h
     ·cases bp:O==hZ<;>simp only[bp,cond_true,cond_false] at h
      ·cases h
      ·split at h
       ·rename_i cm;unfold AV at h;cases c_:e8 80 cm<;>simp only[c_,cond_true,cond_false] at h
        ·cases h
        ·split at h
         ·rename_i ez Z;simp only[Option.some.injEq,Prod.mk.injEq] at h;obtain⟨rfl,rfl⟩:=h;have J8:=congrArg List.length Z;simp only[List.length_drop,List.length_cons] at J8;refine⟨by show w2.length<=_;omega,by show(rest.take _).length<=_;simp;omega,by omega⟩
         ·cases h
       ·cases h
     ·cases bp:more==[]<;>simp only[bp,cond_true,cond_false] at h
      ·cases h
      ·simp only[Option.some.injEq,Prod.mk.injEq] at h;obtain⟨rfl,rfl⟩:=h;exact⟨by show w2.length<=_;omega,by show 0<=_;omega,by omega⟩
   ·cases bp:more==[]<;>simp only[bp,cond_true,cond_false] at h
    ·cases h
    ·simp only[Option.some.injEq,Prod.mk.injEq] at h;obtain⟨rfl,rfl⟩:=h;exact⟨by show aN.length<=_;omega,by show w2.length<=_;omega,by omega⟩
def o'(k:Nat)(t:List az):Prop:=∀e,e∈t->e.path.length<=k/\e.text.length<=k
theorem ahL:∀(m:Nat) (s:F) (t:List az),s.length<=m->m<=1000000->t.length<=16->o' 1000000 t->
  (∃ns:List az,uF (((),(s,())),(t,()))=some (.inr (((),()),(ns,())))/\ns.length<=16/\o' 1000000 ns)\/uF (((),(s,())),(t,()))=some (.inl (((),(false,())),(([]:List az),()))):=by
 intro m;induction m with
 |zero=>
  intro s t hs _ aq ha;have:s=[]:=List.length_eq_zero_iff.1 (by omega)
  subst this;exact .inl ⟨t,ca rfl,aq,ha⟩
 |succ m ih=>
  intro s t hs hm aq ha;cases s with
  |nil=>exact .inl ⟨t,ca rfl,aq,ha⟩
  |cons b fJ=>
   have hne:((b::fJ)==([]:F))=false:=rfl;generalize eA:b::fJ=s at hs hne;obtain⟨r,e,h1,h2⟩:=L7 s (by omega)
   cases hr:mD s with
   |none=>
    rw[hr] at h1;refine .inr (ca ?_);simp only[qa,hne,Bool.not_false,cond_true,h1,Option.bind_some,Option.isSome_none,rJ,Bool.not_true,cond_false]
   |some q=>
    have ar:=h2 q hr;subst ar;rw[hr] at h1;obtain⟨ee,gB,wQ⟩:=DI hr;by_cases wB:t.length=16
    ·refine .inr (ca ?_);have d:(((t.length:Nat):Int)==16)=true:=by rw[beq_iff_eq];omega
     simp only[qa,hne,Bool.not_false,cond_true,h1,Option.bind_some,Option.isSome_some,rJ,Bool.not_true,cond_false,d]
    ·have d:(((t.length:Nat):Int)==16)=false:=by rw[beq_eq_false_iff_ne];omega
     have fc:cy 48 t ([(az.mk e.path e.kind e.mode e.text)]:List az)=some (t++[e]):=d' (by decide) (by unfold ap;simp;omega)
     have st:qa (((),(s,())),(t,()))=some (.inl (((),(r,())),(t++[e],()))):=by
      simp only[qa,hne,Bool.not_false,cond_true,h1,Option.bind_some,Option.isSome_some,rJ,Bool.not_true,cond_false,d,fc]
     have amn:o' 1000000 (t++[e]):=fun x hx=>by
      rcases List.mem_append.1 hx with hx|hx
      ·exact ha x hx
      ·rw[List.mem_singleton.1 hx];exact⟨by omega,by omega⟩
     rcases ih r (t++[e]) (by omega) (by omega) (by simp;omega) amn with⟨ns,g1,g2,g3⟩|g1
     ·exact .inl ⟨ns,(dz st).trans g1,g2,g3⟩
     ·exact .inr ((dz st).trans g1)
theorem ahK:∀(b' t:List az),(∀e,e∈b'->eL e=true)->t.length+b'.length<=16->(dd b').length<=1000000->
  uF (((),(dd b',())),(t,()))=some (.inr (((),()),(t++b',()))):=by
 intro b';induction b' with
 |nil=>intro t _ _ _;rw[List.append_nil];exact ca rfl
 |cons e b' ih=>
  intro t h aq hl;have he:=h e List.mem_cons_self;have hr:=NG he (dd b');have hE:dd (e::b')=ea e++dd b':=by unfold dd;rw[List.flatMap_cons]
  rw[hE] at hl ⊢;have hlen:=(DI hr).2.2;have hne:((ea e++dd b')==([]:F))=false:=by
   cases hx:ea e++dd b' with
   |nil=>rw[hx] at hlen;simp at hlen
   |cons b r=>rfl
  obtain⟨r,cz,h1,h2⟩:=L7 (ea e++dd b') hl;have ar:=h2 _ hr;simp only[Prod.mk.injEq] at ar;obtain⟨rfl,rfl⟩:=ar;rw[hr] at h1;have d:(((t.length:Nat):Int)==16)=false:=by rw[beq_eq_false_iff_ne];simp at aq;omega
  have fc:cy 48 t ([(az.mk e.path e.kind e.mode e.text)]:List az)=some (t++[e]):=d' (by decide) (by unfold ap;simp;simp at aq;omega)
  have st:qa (((),(ea e++dd b',())),(t,()))=some (.inl (((),(dd b',())),(t++[e],()))):=by
   simp only[qa,hne,Bool.not_false,cond_true,h1,Option.bind_some,Option.isSome_some,rJ,Bool.not_true,cond_false,d,fc]
  have:=ih (t++[e]) (fun x hx=>h x (List.mem_cons_of_mem _ hx)) (by simp at aq ⊢;omega) (by omega)
  rw[List.append_assoc] at this;exact(dz st).trans this
theorem ZH(s:F)(hs:s.length<=1000000):∃(ok:Bool) (t:List az),f118 ((s,()),())=some (((),(ok,())),(t,()))/\t.length<=16/\o' 1000000 t:=by
 rcases ahL s.length s [] (Nat.le_refl _) hs (by decide) (fun x hx=>by cases hx) with⟨ns,g1,g2,g3⟩|g1
 ·have aq:=pF ((ns,()),()) ⟨by show ns.length<=2097152;omega,fun e he=>by have:=g3 e he;exact⟨by show e.path.length<=2097152;omega,by show e.text.length<=2097152;omega⟩⟩
  have aq:f105 ((ns,()),())=some ((dL ns,()),()):=aq;simp only[f118,g1,Option.bind_some,aq];cases dL ns with
  |false=>exact⟨false,[],rfl,by simp,fun x hx=>by cases hx⟩
  |true=>exact⟨true,ns,rfl,g2,g3⟩
 ·simp only[f118,g1,Option.bind_some];exact⟨false,[],rfl,by simp,fun x hx=>by cases hx⟩
theorem ZG(t:List az)(h:dL t=true)(hs:(dd t).length<=1000000)(hb:io t):
  f118 ((dd t,()),())=some (((),(true,())),(t,())):=by
 have g1:=ahK t [] (t_ h) (by have:=jp h;simpa using this) hs
 have aq:=pF ((t,()),()) hb;have aq:f105 ((t,()),())=some ((dL t,()),()):=aq;simp only[f118,g1,List.nil_append,Option.bind_some,aq,h,Bool.not_true,cond_false]
noncomputable abbrev anw:bi:=[(114,vK),(168,Vn),(169,Vm)]
theorem Jj:a_ U (bg aj anw):=bf ⟨Bh,z168,akN,⟨⟩⟩
abbrev NC:Shape:=⟨[bc 5 3000320,ao 7,au 10,aM 11 11 0,au 12],[bb 3000320 .need 5 0,aL 11 [ai,bq,ai]],46⟩
abbrev Nj:List aO:=[(.norm,⟨[bc 5 3000320,ao 7,aM 11 11 0,au 40],[bb 3000320 .need 5 0,aL 11 [ai,bq,ai]],46⟩)]
noncomputable def uh(y:NC.J):Option (aD Nj):=
 bif(!(!y.1.2.2.1)) then
 some (((),y.1.2.1,(),(!y.1.2.2.2.2.1),()),y.2.1,(y.2.2.1.1,y.2.2.1.2.1,y.2.2.1.2.2.1,()),())
else
 some (((),y.1.2.1,(),true,()),y.2.1,(y.2.2.1.1,y.2.2.1.2.1,y.2.2.1.2.2.1,()),())
theorem acN:aY U (an (da (an (codeOf Tryz.f117) 1 14)) 28 7292) (a' NC Nj uh):=cW Jj (by kernel_rfl) ag fun y=>by kernel_rfl
abbrev y8:Shape:=⟨[ao 0,bc 5 3000320],[bb 3000320 .need 5 0],46⟩
abbrev FP:List aO:=[(.ret,⟨[bc 2 3000128,ao 3,au 4],[bb 3000128 .need 2 0],46⟩)]
noncomputable def lJ(y:y8.J):bR y8 FP:=
(f114 ((y.1.1,([10]:F),()),())).bind fun a=>
 bif(!a.1.2.2.1) then
 some (.inr (((),([]:F),false,()),([]:List bB),()))
else
 bif(a.1.1==([]:F)) then
 some (.inr (((),a.1.2.1,true,()),y.2.1,()))
else
(f168 ((a.1.1,([110,101,101,100,32]:F),()),())).bind fun b=>
(f169 ((b.1.1,()),())).bind fun c=>
(uh (((),a.1.2.1,b.1.2.1,(),c.1.2.1,()),y.2.1,(c.2.1.1,c.2.1.2.1,c.2.1.2.2.1,()),())).bind fun d=>
 bif d.1.2.2.2.1 then
 some (.inr (((),([]:F),false,()),([]:List bB),()))
else
(cy 40 d.2.1 ([(bB.mk d.2.2.1.1 d.2.2.1.2.1 d.2.2.1.2.2.1)]:List bB)).bind fun e=>
 some (.inl ((d.1.2.1,(),()),e,()))
noncomputable def zg:y8.J->Option (aD FP):=bv lJ
theorem agI:aY U (an (codeOf Tryz.f117) 1 14) (a' y8 FP zg):=bT Jj (by kernel_rfl) (ba acN ag) fun y=>by kernel_rfl
abbrev i117:Shape:=⟨[ao 0],[],46⟩
abbrev TW:Shape:=⟨[bc 2 3000128,ao 3,au 4],[bb 3000128 .need 2 0],46⟩
noncomputable def f117(a:i117.J):Option TW.J:=
(zg ((a.1.1,(),()),([]:List bB),())).bind fun b=>
 some (((),b.1.2.1,b.1.2.2.1,()),b.2.1,())
noncomputable def VS:aH:=aP aj Tryz.f117 i117 TW [] f117
theorem z117:aG U 117 VS:=aS Jj Tryz.func117 (by kernel_rfl) (ba agI ag) (fun y=>by kernel_rfl) fun a=>by kernel_rfl
def s'(k:Nat)(t:List bB):Prop:=∀e,e∈t->e.name.length<=k/\e.aV.length<=k
theorem aco{a t:F}{n:bB}(h:oO a t=some n):n.name=a/\n.aV.length<=t.length:=by
 unfold oO at h;split at h
 ·cases h;exact⟨rfl,by simp;omega⟩
 ·cases h;exact⟨rfl,by simp⟩
 ·cases h;exact⟨rfl,by simp⟩
 ·cases h
theorem acq{s:F}{n:bB}(h:km s=some n):n.name.length<=s.length/\n.aV.length<=s.length:=by
 unfold km at h;split at h
 ·rename_i k _;obtain⟨h1,h2⟩:=aco h;rw[h1];simp at h2 ⊢;omega
 ·cases h;exact⟨Nat.le_refl _,by simp⟩
theorem afb(s:F):((eB s).getD h_).name.length<=s.length/\((eB s).getD h_).aV.length<=s.length:=by
 have no:eB s=none->((eB s).getD h_).name.length<=s.length/\((eB s).getD h_).aV.length<=s.length:=fun h=>by
  rw[h];exact⟨Nat.zero_le _,Nat.zero_le _⟩
 cases h:km s with
 |none=>exact no (by unfold eB;rw[h])
 |some n=>
  have hG:eB s=bif du n then some n else none:=by unfold eB;rw[h]
  cases hk:du n with
  |true=>rw[hG,hk];exact acq h
  |false=>exact no (by rw[hG,hk];rfl)
theorem N1{p s r:F}(h:dM p s=some r):r.length<=s.length:=by
 unfold dM at h;cases hc:decide (p.length<=s.length)&&s.take p.length==p with
 |false=>rw[hc] at h;cases h
 |true=>rw[hc] at h;cases h;simp
theorem afc(p s:F):((dM p s).getD s).length<=s.length:=by
 cases h:dM p s with
 |none=>exact Nat.le_refl _
 |some r=>exact N1 h
theorem ahQ:∀(m:Nat) (s:F) (t:List bB),s.length<=m->t.length+m<=1000000->s' 1000000 t->
  ∃(r:F) (ok:Bool) (ns:List bB),zg ((s,((),())),(t,()))=some (((),(r,(ok,()))),(ns,()))/\r.length<=s.length/\ns.length<=1000000/\s' 1000000 ns:=by
 intro m;induction m with
 |zero=>
  intro s t hs aq ha;have:s=[]:=List.length_eq_zero_iff.1 (by omega)
  subst this;have hc:=mA 10 [] (by unfold ap;simp)
  have hc:f114 ((([]:F),(([10]:F),())),())=some ((([]:F),(([]:F),(false,()))),()):=hc;refine⟨[],false,[],ca ?_,by simp,by simp,fun x hx=>by cases hx⟩
  simp only[lJ,hc,Option.bind_some,Bool.not_false,cond_true]
 |succ m ih=>
  intro s t hs aq ha;have hc:=mA 10 s (by unfold ap;omega)
  have hc:f114 ((s,(([10]:F),())),())=_:=hc;cases ar:dk 10 s with
  |none=>
   rw[ar] at hc;refine⟨[],false,[],ca ?_,by simp,by simp,fun x hx=>by cases hx⟩
   simp only[lJ,hc,Option.bind_some,Option.isSome_none,Bool.not_false,cond_true]
  |some q=>
   obtain⟨bO,rest⟩:=q;have hl:=(iV ar).1;have hl:s.length=bO.length+1+rest.length:=by rw[hl];simp;omega
   have dZ:gS 10 s=bO:=by unfold gS;rw[ar]
   have hB:gR 10 s=rest:=by unfold gR;rw[ar]
   rw[ar,dZ,hB] at hc;cases he:bO==([]:F) with
   |true=>
    refine⟨rest,true,t,ca ?_,by omega,by omega,ha⟩
    simp only[lJ,hc,Option.bind_some,Option.isSome_some,Bool.not_true,cond_false,he,cond_true]
   |false=>
    have hp:=Ma bO [110,101,101,100,32];have hp:f168 ((bO,(([110,101,101,100,32]:F),())),())=_:=hp;have bk:=afc [110,101,101,100,32] bO;generalize(dM [110,101,101,100,32] bO).getD bO=w at hp bk;have hn:=M8 w (by omega)
    have Ce:=afb w;cases cp:(dM [110,101,101,100,32] bO).isSome&&(eB w).isSome with
    |false=>
     refine⟨[],false,[],ca ?_,by simp,by simp,fun x hx=>by cases hx⟩
     simp only[lJ,hc,Option.bind_some,Option.isSome_some,Bool.not_true,cond_false,he,hp,hn,uh];cases iw:(dM [110,101,101,100,32] bO).isSome with
     |false=>simp only[Bool.not_false,Bool.not_true,cond_false,cond_true,Option.bind_some]
     |true=>
      rw[iw] at cp;have cp:(eB w).isSome=false:=cp;simp only[cp,Bool.not_false,Bool.not_true,cond_false,cond_true,Option.bind_some]
    |true=>
     rw[Bool.and_eq_true] at cp;have fc:cy 40 t ([(bB.mk ((eB w).getD h_).name ((eB w).getD h_).kind ((eB w).getD h_).aV)]:List bB)=some (t++[(eB w).getD h_]):=d' (by decide) (by unfold ap;simp;omega)
     have st:lJ ((s,((),())),(t,()))=some (.inl ((rest,((),())),(t++[(eB w).getD h_],()))):=by
      simp only[lJ,hc,Option.bind_some,Option.isSome_some,Bool.not_true,cond_false,he,hp,hn,uh,cp.1,cp.2,Bool.not_false,cond_true,fc]
     obtain⟨r,ok,ns,g1,g2,g3,g4⟩:=ih rest (t++[(eB w).getD h_]) (by omega) (by simp;omega) (fun x hx=>by
      rcases List.mem_append.1 hx with hx|hx
      ·exact ha x hx
      ·rw[List.mem_singleton.1 hx];exact⟨by omega,by omega⟩)
     exact⟨r,ok,ns,(dz st).trans g1,by omega,g3,g4⟩
theorem ahP:∀(ns t:List bB) (r:F),(∀n,n∈ns->du n=true)->t.length+ns.length<=1000->(ns.flatMap cG++10::r).length<=1000000->
  zg ((ns.flatMap cG++10::r,((),())),(t,()))=some (((),(r,(true,()))),(t++ns,())):=by
 intro ns;induction ns with
 |nil=>
  intro t r _ _ hs;have hc:=mA 10 (10::r) (by unfold ap;simp at hs ⊢;omega)
  have dZ:gS 10 (10::r)=[]:=by unfold gS;rw[He]
  have hB:gR 10 (10::r)=r:=by unfold gR;rw[He]
  rw[dZ,hB,He] at hc;have hc:f114 ((10::r,(([10]:F),())),())=some ((([]:F),(r,(true,()))),()):=hc;have he:(([]:F)==([]:F))=true:=rfl;rw[List.append_nil];refine ca ?_
  show lJ ((10::r,((),())),(t,()))=_;simp only[lJ,hc,Option.bind_some,Bool.not_true,cond_false,he,cond_true]
 |cons n ns ih=>
  intro t r h aq hs;have hk:=h n List.mem_cons_self;have fF:=acU (n:=n) (ns:=ns) (r:=10::r) hk;generalize eA:(n::ns).flatMap cG++10::r=s at hs fF;have hc:=mA 10 s (by unfold ap;omega)
  have hl:=(iV fF).1;have hl:s.length=(fC++32::cH n).length+1+(ns.flatMap cG++10::r).length:=by rw[hl];simp;omega
  have dZ:gS 10 s=fC++32::cH n:=by unfold gS;rw[fF]
  have hB:gR 10 s=ns.flatMap cG++10::r:=by unfold gR;rw[fF]
  rw[dZ,hB,fF] at hc;have hc:f114 ((s,(([10]:F),())),())=some ((fC++32::cH n,(ns.flatMap cG++10::r,(true,()))),()):=hc;have he:((fC++32::cH n)==([]:F))=false:=rfl;have Z:dM [110,101,101,100,32] (fC++32::cH n)=some (cH n):=uj [110,101,101,100,32] (cH n);have hp:=Ma (fC++32::cH n) [110,101,101,100,32];rw[Z] at hp;have hp:f168 ((fC++32::cH n,(([110,101,101,100,32]:F),())),())=some ((cH n,(true,())),()):=hp;have hn:=M8 (cH n) (by simp[fC] at hl;omega)
  rw[afa hk] at hn;have hn:f169 ((cH n,()),())=some (((),(true,())),((n.name,(n.kind,(n.aV,()))),())):=hn;have fc:cy 40 t ([(bB.mk n.name n.kind n.aV)]:List bB)=some (t++[n]):=d' (by decide) (by unfold ap;simp;simp at aq;omega)
  have st:lJ ((s,((),())),(t,()))=some (.inl ((ns.flatMap cG++10::r,((),())),(t++[n],()))):=by
   simp only[lJ,hc,Option.bind_some,Bool.not_true,cond_false,he,hp,hn,uh,Bool.not_false,cond_true,fc]
  have:=ih (t++[n]) r (fun x hx=>h x (List.mem_cons_of_mem _ hx)) (by simp at aq ⊢;omega) (by omega)
  rw[List.append_assoc] at this;exact(dz st).trans this
theorem Zx(s:F)(hs:s.length<=1000000):∃(r:F) (ok:Bool) (ns:List bB),f117 ((s,()),())=some (((),(r,(ok,()))),(ns,()))/\r.length<=s.length/\ns.length<=1000000/\s' 1000000 ns:=by
 obtain⟨r,ok,ns,g1,g2⟩:=ahQ s.length s [] (Nat.le_refl _) (by simpa using hs) (fun x hx=>by cases hx)
 exact⟨r,ok,ns,by simp only[f117,g1,Option.bind_some],g2⟩
theorem Zw(ns:List bB)(r:F)(h:∀n,n∈ns->du n=true)(hl:ns.length<=1000)(hs:(ns.flatMap cG++10::r).length<=1000000):
  f117 ((ns.flatMap cG++10::r,()),())=some (((),(r,(true,()))),(ns,())):=by
 have g1:=ahP ns [] r h (by simpa using hl) hs
 simp only[f117,g1,Option.bind_some,List.nil_append]
noncomputable abbrev arC:bi:=[(36,KL),(55,Cv),(114,vK),(116,VT),(117,VS),(118,VR)]
theorem YB:a_ U (bg aj arC):=bf ⟨Wq,Jp,Bh,z116,z117,ak4,⟨⟩⟩
abbrev Nr:Shape:=⟨[ao 0,aM 2 2 0,aM 11 11 0,au 14],[bx 5000130 .need 2 2,bx 5000131 .entry 2 3,aL 2 [ai,ai,.own 5000130,.own 5000131],bx 5000706 .need 11 2,bx 5000707 .entry 11 3,aL 11 [ai,ai,.own 5000706,.own 5000707]],76⟩
abbrev M9:List aO:=[(.norm,⟨[aM 2 2 0,aM 11 11 0,au 73],[bx 5000130 .need 2 2,bx 5000131 .entry 2 3,aL 2 [ai,ai,.own 5000130,.own 5000131],bx 5000706 .need 11 2,bx 5000707 .entry 11 3,aL 11 [ai,ai,.own 5000706,.own 5000707]],76⟩)]
noncomputable def pH(y:Nr.J):Option (aD M9):=
 bif(!(!y.1.2.2.2.1)) then
(f55 (((y.2.2.2.2.2.2.1.1,y.2.2.2.2.2.2.1.2.1,y.2.2.2.2.1,y.2.2.2.2.2.1,()),()),())).bind fun a=>
 bif(!(!a.1.1)) then
(f36 (((y.2.2.2.2.2.2.1.1,y.2.2.2.2.2.2.1.2.1,y.2.2.2.2.1,y.2.2.2.2.2.1,()),()),())).bind fun b=>
 some (((),(),(!(b.1.1==y.1.1)),()),y.2.1,y.2.2.1,(y.2.2.2.1.1,y.2.2.2.1.2.1,(),(),()),y.2.2.2.2.1,y.2.2.2.2.2.1,(y.2.2.2.2.2.2.1.1,y.2.2.2.2.2.2.1.2.1,(),(),()),())
else
 some (((),(),true,()),y.2.1,y.2.2.1,(y.2.2.2.1.1,y.2.2.2.1.2.1,(),(),()),y.2.2.2.2.1,y.2.2.2.2.2.1,(y.2.2.2.2.2.2.1.1,y.2.2.2.2.2.2.1.2.1,(),(),()),())
else
 some (((),(),true,()),y.2.1,y.2.2.1,(y.2.2.2.1.1,y.2.2.2.1.2.1,(),(),()),y.2.2.2.2.1,y.2.2.2.2.2.1,(y.2.2.2.2.2.2.1.1,y.2.2.2.2.2.2.1.2.1,(),(),()),())
theorem acu:aY U (an (codeOf Tryz.f67) 1 16380) (a' Nr M9 pH):=cW YB (by kernel_rfl) ag fun y=>by kernel_rfl
abbrev i67:Shape:=⟨[ao 0],[],76⟩
abbrev vX:Shape:=⟨[aM 2 2 0,au 3],[bx 5000130 .need 2 2,bx 5000131 .entry 2 3,aL 2 [ai,ai,.own 5000130,.own 5000131]],76⟩
noncomputable def f67(a:i67.J):Option vX.J:=
 bif(decide ((a.1.1.length:Int)>(4000:Int))) then
 some (((),false,()),([]:List bB),([]:List az),(([]:F),([]:F),(),(),()),())
else
(f114 ((a.1.1,([10]:F),()),())).bind fun b=>
(f114 ((b.1.2.1,([10]:F),()),())).bind fun c=>
(f116 ((c.1.1,([32]:F),()),())).bind fun d=>
 bif((d.1.1.length:Int) !=(3:Int)) then
 some (((),false,()),([]:List bB),([]:List az),(([]:F),([]:F),(),(),()),())
else
(aU d.1.1 (1:Int)).bind fun e=>
(aU d.1.1 (2:Int)).bind fun f=>
(f117 ((c.1.2.1,()),())).bind fun g=>
 bif(!g.1.2.2.1) then
 some (((),false,()),([]:List bB),([]:List az),(([]:F),([]:F),(),(),()),())
else
(f118 ((g.1.2.1,()),())).bind fun h=>
(pH ((a.1.1,(),(),h.1.2.1,()),([]:List bB),([]:List az),(([]:F),([]:F),(),(),()),g.2.1,h.2.1,(e,f,(),(),()),())).bind fun i=>
 bif i.1.2.2.1 then
 some (((),false,()),([]:List bB),([]:List az),(([]:F),([]:F),(),(),()),())
else
 some (((),true,()),i.2.2.2.2.1,i.2.2.2.2.2.1,(i.2.2.2.2.2.2.1.1,i.2.2.2.2.2.2.1.2.1,(),(),()),())
noncomputable def Yb:aH:=aP aj Tryz.f67 i67 vX [] f67
theorem aom:aG U 67 Yb:=aS YB Tryz.func67 (by kernel_rfl) (ba acu ag) (fun y=>by kernel_rfl) fun a=>by kernel_rfl
theorem C2{ax:Type}(f:ax->F):∀{xs:List ax} {x:ax},x∈xs->(f x).length<=(xs.flatMap f).length:=by
 intro xs;induction xs with
 |nil=>intro x h;cases h
 |cons y bd ih=>
  intro x h;rw[List.flatMap_cons,List.length_append];rcases List.mem_cons.1 h with rfl|h
  ·omega
  ·have:=ih h;omega
theorem ac7{e:az}(h:eL e=true):e.path.length<=(ea e).length/\e.text.length<=(ea e).length:=by
 have hc:=DI (NG h []);rw[List.append_nil] at hc;exact⟨hc.1,hc.2.1⟩
theorem xm(p:aW):(dj p).length<=(bA p).length/\p.name.length+p.aV.length+(p.bl.flatMap cG++10::dd p.bQ).length+10<=(dj p).length+10/\(dd p.bQ).length<=(dj p).length/\(p.bl.flatMap cG).length<=(dj p).length:=by
 have h1:(bA p).length=(eF p).length+1+(dj p).length:=by rw[uz];simp;omega
 have h2:(dj p).length=(dP p).length+1+(iA p).length:=by rw[uq];simp;omega
 have h3:(dP p).length=4+1+(p.name.length+1+p.aV.length):=by unfold dP;simp[k_,ig];omega
 have aw:(iA p).length=(p.bl.flatMap cG).length+1+(dd p.bQ).length:=by unfold iA;rw[List.length_append,List.length_cons];omega
 have bk:(p.bl.flatMap cG++10::dd p.bQ).length=(iA p).length:=rfl;omega
theorem Hb{p:aW}(hk:cB p=true)(hl:(bA p).length<=4000):kc p:=by
 obtain⟨h1,h2,h3,aw,_,cp⟩:=nj hk;obtain⟨q1,q2,cU,jm⟩:=xm p;refine⟨by show p.name.length<=2097152;omega,by show p.aV.length<=2097152;omega,⟨by show p.bl.length<=2097152;omega,fun n hn=>?_⟩,⟨by show p.bQ.length<=2097152;have:=jp cp;omega,fun e he=>?_⟩⟩
 ·have h:=C2 cG hn;have iq:(cG n).length=(cH n).length+6:=by unfold cG;simp
  have hp:n.name.length+n.aV.length<=(cH n).length:=by unfold cH;simp
  exact⟨by show n.name.length<=2097152;omega,by show n.aV.length<=2097152;omega⟩
 ·have h:=C2 ea he;have h:(ea e).length<=(dd p.bQ).length:=h;have:=ac7 (t_ cp e he);exact⟨by show e.path.length<=2097152;omega,by show e.text.length<=2097152;omega⟩
abbrev rk(p:aW):vX.J:=(((),(true,())),(p.bl,(p.bQ,((p.name,(p.aV,((),((),())))),()))))
abbrev Ln:vX.J:=(((),(false,())),(([]:List bB),(([]:List az),((([]:F),(([]:F),((),((),())))),()))))
theorem aiQ{p q:aW}(h:rk p=rk q):p=q:=by
 obtain⟨a,b,c,d⟩:=p;obtain⟨cM,bI,fi,Y9⟩:=q;simp only[rk,Prod.mk.injEq] at h;obtain⟨_,rfl,rfl,⟨rfl,rfl,_⟩,_⟩:=h;rfl
theorem CU{p:aW}(hk:cB p=true)(hl:(bA p).length<=4000):f67 ((bA p,()),())=some (rk p):=by
 have hb:=Hb hk hl;obtain⟨h1,h2,h3,aw,_,cp⟩:=nj hk;obtain⟨q1,q2,cU,jm⟩:=xm p;have d:decide (((bA p).length:Int)>4000)=false:=decide_eq_false (by omega)
 have c1:=mA 10 (bA p) (by unfold ap;omega)
 have a1:gR 10 (bA p)=dj p:=by unfold gR;rw[aeO]
 rw[a1] at c1;have c1:f114 ((bA p,(([10]:F),())),())=_:=c1;have c2:=mA 10 (dj p) (by unfold ap;omega)
 have a2:gR 10 (dj p)=iA p:=by unfold gR;rw[N7 hk]
 have a3:gS 10 (dj p)=dP p:=by unfold gS;rw[N7 hk]
 rw[a2,a3] at c2;have c2:f114 ((dj p,(([10]:F),())),())=_:=c2;have bP:(dP p).length<=(dj p).length:=by rw[uq];simp
 have c3:=M7 (dP p) (by omega)
 rw[C9 hk] at c3;have iv:(((([ig,p.name,p.aV]:List F).length:Nat):Int) !=3)=false:=rfl;have dX:aU [ig,p.name,p.aV] (1:Int)=some p.name:=rfl;have fI:aU [ig,p.name,p.aV] (2:Int)=some p.aV:=rfl;have c5:=Zw p.bl (dd p.bQ) h3 (by omega) (by omega)
 have c5:f117 ((iA p,()),())=_:=c5;have gD:=ZG p.bQ cp (by omega) hb.2.2.2
 have c6:=xx (((p.name,(p.aV,(p.bl,(p.bQ,())))),()),()) hb;have c6:f55 (((p.name,(p.aV,(p.bl,(p.bQ,())))),()),())=some ((cB p,()),()):=c6;have pv:=Db p hb;rw[hk] at c6 pv;simp only[f67,d,cond_false,c1,c2,c3,iv,dX,fI,c5,gD,Option.bind_some,Bool.not_true,Bool.not_false,pH,cond_true,c6,pv,beq_self_eq_true]
theorem ZE(s:F)(hs:ap s.length):f67 ((s,()),())=some Ln\/∃p:aW,f67 ((s,()),())=some (rk p)/\cB p=true/\bA p=s/\s.length<=4000:=by
 by_cases hl:s.length<=4000
 ·have d:decide ((s.length:Int)>4000)=false:=decide_eq_false (by omega)
  have asN:∀t:F,(gS 10 t).length<=t.length:=fun t=>by
   unfold gS;cases h:dk 10 t with
   |none=>exact Nat.le_refl _
   |some q=>obtain⟨x,y⟩:=q;have:=(iV h).1;show x.length<=_;rw[this];simp
  have YZ:∀t:F,(gR 10 t).length<=t.length:=fun t=>by
   unfold gR;cases h:dk 10 t with
   |none=>show 0<=_;omega
   |some q=>obtain⟨x,y⟩:=q;have:=(iV h).1;show y.length<=_;rw[this];simp;omega
  have c1:=mA 10 s hs;have c1:f114 ((s,(([10]:F),())),())=_:=c1;have ee:=YZ s;generalize gR 10 s=b at c1 ee;have c2:=mA 10 b (by unfold ap;omega)
  have c2:f114 ((b,(([10]:F),())),())=_:=c2;have gB:=YZ b;have wQ:=asN b;generalize gR 10 b=r at c2 gB;generalize gS 10 b=Z at c2 wQ;have c3:=M7 Z (by omega)
  have m3:∀w,w∈bJ 32 Z->w.length<=Z.length:=fun w hw=>by
   rw[<-xg 32 Z.length Z (Nat.le_refl _)] at hw;exact pC 32 _ Z w hw
  generalize bJ 32 Z=ws at c3 m3;cases iv:(((ws.length:Nat):Int) !=3) with
  |true=>
   refine .inl ?_
   simp only[f67,d,cond_false,c1,c2,c3,iv,cond_true,Option.bind_some]
  |false=>
   obtain⟨O,bE,vs,rfl⟩:∃O bE vs,ws=[O,bE,vs]:=by
    have:ws.length=3:=by simp at iv;omega
    match ws,this with
    |[a,b,c],_=>exact⟨a,b,c,rfl⟩
   have dX:aU [O,bE,vs] (1:Int)=some bE:=rfl;have fI:aU [O,bE,vs] (2:Int)=some vs:=rfl;have aB:=m3 bE (by simp)
   have aA:=m3 vs (by simp)
   obtain⟨ez,ok,ns,c5,cL,fK,ia⟩:=Zx r (by omega)
   obtain⟨Jz,t,gD,wW,K8⟩:=ZH ez (by omega)
   cases ok with
   |false=>
    refine .inl ?_
    simp only[f67,d,cond_false,c1,c2,c3,iv,dX,fI,c5,cond_true,Option.bind_some,Bool.not_false]
   |true=>
    cases Jz with
    |false=>
     refine .inl ?_
     simp only[f67,d,cond_false,c1,c2,c3,iv,dX,fI,c5,gD,cond_true,Option.bind_some,Bool.not_false,Bool.not_true,pH]
    |true=>
     have hb:kc ⟨bE,vs,ns,t⟩:=⟨by show bE.length<=2097152;omega,by show vs.length<=2097152;omega,⟨by show ns.length<=2097152;omega,fun n hn=>by have:=ia n hn;exact⟨by show n.name.length<=2097152;omega,by show n.aV.length<=2097152;omega⟩⟩,⟨by show t.length<=2097152;omega,fun e he=>by have:=K8 e he;exact⟨by show e.path.length<=2097152;omega,by show e.text.length<=2097152;omega⟩⟩⟩
     have c6:=xx (((bE,(vs,(ns,(t,())))),()),()) hb;have c6:f55 (((bE,(vs,(ns,(t,())))),()),())=some ((cB ⟨bE,vs,ns,t⟩,()),()):=c6;have pv:=Db ⟨bE,vs,ns,t⟩ hb;have pv:f36 (((bE,(vs,(ns,(t,())))),()),())=_:=pv;cases hk:cB ⟨bE,vs,ns,t⟩ with
     |false=>
      rw[hk] at c6;refine .inl ?_
      simp only[f67,d,cond_false,c1,c2,c3,iv,dX,fI,c5,gD,cond_true,Option.bind_some,Bool.not_false,Bool.not_true,pH,c6]
     |true=>
      rw[hk] at c6 pv;cases he:bA ⟨bE,vs,ns,t⟩==s with
      |false=>
       refine .inl ?_
       simp only[f67,d,cond_false,c1,c2,c3,iv,dX,fI,c5,gD,cond_true,Option.bind_some,Bool.not_false,Bool.not_true,pH,c6,pv,he]
      |true=>
       refine .inr ⟨⟨bE,vs,ns,t⟩,?_,hk,eq_of_beq he,hl⟩;simp only[f67,d,cond_false,c1,c2,c3,iv,dX,fI,c5,gD,cond_true,Option.bind_some,Bool.not_false,Bool.not_true,pH,c6,pv,he]
 ·have d:decide ((s.length:Int)>4000)=true:=decide_eq_true (by omega)
  refine .inl ?_
  simp only[f67,d,cond_true]
def Xj(s:F)(p:aW):Prop:=cB p=true/\bA p=s/\s.length<=4000
def asZ(B:Option aW):vX.J:=match B with|some p=>rk p|none=>Ln
theorem aaF(s:F)(hs:ap s.length):∃B:Option aW,f67 ((s,()),())=some (asZ B)/\nG B (Xj s):=by
 rcases ZE s hs with h|⟨p,h,h1,h2,h3⟩
 ·refine⟨none,h,fun p=>⟨fun hp=>(by cases hp),fun⟨q1,q2,cU⟩=>?_⟩⟩
  subst q2;have:=CU q1 cU;rw[h] at this;simp only[Option.some.injEq,Prod.mk.injEq] at this;exact absurd this.1.2.1 (by decide)
 ·refine⟨some p,h,fun q=>⟨fun hp=>?_,fun⟨q1,q2,cU⟩=>?_⟩⟩
  ·cases hp;exact⟨h1,h2,h3⟩
  ·subst q2;have:=CU q1 cU;rw[h] at this;rw[aiQ (Option.some.inj this)]
noncomputable abbrev arD:bi:=[(114,vK),(115,BE)]
theorem YC:a_ U (bg aj arD):=bf ⟨Bh,H6,⟨⟩⟩
abbrev QD:Shape:=⟨[ao 2,ao 3,au 4,ao 6,au 7,ae 8,au 9],[],35⟩
abbrev Qu:List aO:=[(.norm,⟨[ao 2,ao 3,au 4,ao 6,ae 8,au 28],[],35⟩)]
noncomputable def uY(y:QD.J):Option (aD Qu):=
 bif(!(!y.1.2.2.2.2.1)) then
 some ((y.1.1,y.1.2.1,y.1.2.2.1,y.1.2.2.2.1,y.1.2.2.2.2.2.1,(!y.1.2.2.2.2.2.2.1),()),())
else
 some ((y.1.1,y.1.2.1,y.1.2.2.1,y.1.2.2.2.1,y.1.2.2.2.2.2.1,true,()),())
theorem ah8:aY U (an (codeOf Tryz.f66) 1 60) (a' QD Qu uY):=cW YC (by kernel_rfl) ag fun y=>by kernel_rfl
abbrev i66:Shape:=⟨[ao 0],[],35⟩
abbrev WS:Shape:=⟨[ao 2,ao 3,au 4],[],35⟩
noncomputable def f66(a:i66.J):Option WS.J:=
(f114 ((a.1.1,([10]:F),()),())).bind fun b=>
(f115 ((b.1.1,(b.1.2.1.length:Int),()),())).bind fun c=>
(uY ((([]:F),([]:F),false,b.1.2.1,b.1.2.2.1,c.1.1,c.1.2.1,()),())).bind fun d=>
 bif d.1.2.2.2.2.2.1 then
 some ((([]:F),([]:F),false,()),())
else
(br d.1.2.2.2.1 (0:Int) d.1.2.2.2.2.1).bind fun e=>
(br d.1.2.2.2.1 d.1.2.2.2.2.1 (d.1.2.2.2.1.length:Int)).bind fun f=>
 some ((e,f,true,()),())
noncomputable def Yc:aH:=aP aj Tryz.f66 i66 WS [] f66
theorem aon:aG U 66 Yc:=aS YC Tryz.func66 (by kernel_rfl) (ba ah8 ag) (fun y=>by kernel_rfl) fun a=>by kernel_rfl
theorem afI(t:F)(b:UInt8):c9 (t++[b])=dU (c9 t) b:=by unfold c9;rw[List.foldl_append];rfl
theorem afG:∀{s:F},s.all cI=true->s≠[]->hY s=false->s.length≠1->1<=c9 s:=by
 intro s Z hn hl h1;have key:∀(s:F) (n:Int),s.all cI=true->1<=n->1<=s.foldl dU n:=by
  intro s;induction s with
  |nil=>intro n _ h;exact h
  |cons b s ih=>
   intro n Z hn;simp only[List.all_cons,Bool.and_eq_true] at Z;have hb:=ix Z.1;refine ih _ Z.2 ?_
   unfold dU;omega
 match s,Z,hn,hl,h1 with
 |[],_,hn,_,_=>exact absurd rfl hn
 |[b],_,_,_,h1=>exact absurd rfl h1
 |b::c::r,Z,_,hl,_=>
  have hl:((b.toNat:Int)==48)=false:=hl;have hb:=Z;rw[List.all_cons,Bool.and_eq_true] at hb;have eO:=ix hb.1;have hne:(b.toNat:Int)≠48:=by simpa using hl
  show 1<=(c::r).foldl dU (dU 0 b);exact key _ _ hb.2 (by unfold dU;omega)
theorem abu:∀(k:Nat) (s:F),s.length=k->s.all cI=true->s≠[]->hY s=false->∃n:Nat,c9 s=(n:Int)/\Lib.decDigits n=s:=by
 intro k;induction k with
 |zero=>intro s h _ hn _;exact absurd (List.length_eq_zero_iff.1 h) hn
 |succ k ih=>
  intro s h Z hn hl;obtain⟨t,b,rfl⟩:∃t b,s=t++[b]:=⟨s.dropLast,s.getLast hn,(List.dropLast_concat_getLast hn).symm⟩;have hk:t.length=k:=by simpa using h
  rw[List.all_append,Bool.and_eq_true] at Z;have hb1:cI b=true:=by have:=Z.2;simpa using this
  have eO:=ix hb1;cases t with
  |nil=>
   refine⟨b.toNat-48,?_,?_⟩
   ·show dU 0 b=_;unfold dU;omega
   ·rw[Lib.decDigits,dif_pos (by omega)]
    show [_]=[b];congr 1
    apply UInt8.toNat_inj.1;rw[UInt8.toNat_ofNat'];omega
  |cons c r=>
   have hlt:hY (c::r)=false:=by
    cases r with
    |nil=>rfl
    |cons d r=>exact hl
   obtain⟨n,h1,h2⟩:=ih (c::r) hk Z.1 (by simp) hlt
   have hp:1<=n:=by
    cases r with
    |nil=>
     have pk:((c.toNat:Int)==48)=false:=hl;have pk:(c.toNat:Int)≠48:=by simpa using pk
     have hc:=ix (by have:=Z.1;simpa using this:cI c=true)
     have:dU 0 c=(n:Int):=h1;unfold dU at this;omega
    |cons d r=>
     have:=afG Z.1 (by simp) hlt (by simp)
     omega
   refine⟨n*10+(b.toNat-48),?_,?_⟩
   ·rw[afI,h1];unfold dU;omega
   ·rw[Lib.decDigits,dif_neg (by omega),show(n*10+(b.toNat-48))/10=n by omega,h2,show(n*10+(b.toNat-48))%10=b.toNat-48 by omega]
    congr 2
    apply UInt8.toNat_inj.1;rw[UInt8.toNat_ofNat'];omega
theorem NJ{m:Int}{s:F}(h:e8 m s=true):∃n:Nat,c9 s=(n:Int)/\s=Lib.itoa (n:Int)/\(n:Int)<=m:=by
 have h0:=h;unfold e8 at h;simp only[Bool.and_eq_true,decide_eq_true_eq,Bool.not_eq_true'] at h;obtain⟨⟨⟨⟨h1,h2⟩,h3⟩,_⟩,bk⟩:=h;obtain⟨n,e1,e2⟩:=abu s.length s rfl h1 (by simpa using h2) h3
 exact⟨n,e1,by rw[pP,e2],by omega⟩
def k7(s:F):Option (F×F):=match dk 10 s with
 |some (bO,r)=>bif e8 (r.length:Int) bO then some (r.take (c9 bO).toNat,r.drop (c9 bO).toNat) else none
 |none=>none
theorem L6(s:F)(hs:ap s.length):f66 ((s,()),())=some ((((k7 s).getD ([],[])).1,(((k7 s).getD ([],[])).2,((k7 s).isSome,()))),()):=by
 have c1:=mA 10 s hs;have c1:f114 ((s,(([10]:F),())),())=_:=c1;cases ar:dk 10 s with
 |none=>
  have hz:k7 s=none:=by unfold k7;rw[ar]
  have dZ:gS 10 s=s:=by unfold gS;rw[ar]
  have n1:=xv s ((gR 10 s).length:Int) hs;rw[ar,dZ] at c1;simp only[f66,c1,Option.bind_some,n1,uY,Option.isSome_none,Bool.not_false,Bool.not_true,cond_false,cond_true,hz];rfl
 |some q=>
  obtain⟨bO,r⟩:=q;have hl:=(iV ar).1;have hl:s.length=bO.length+1+r.length:=by rw[hl];simp;omega
  have dZ:gS 10 s=bO:=by unfold gS;rw[ar]
  have hB:gR 10 s=r:=by unfold gR;rw[ar]
  rw[ar,dZ,hB] at c1;have n1:=xv bO (r.length:Int) (by unfold ap at hs ⊢;omega)
  have hz:k7 s=bif e8 (r.length:Int) bO then some (r.take (c9 bO).toNat,r.drop (c9 bO).toNat) else none:=by unfold k7;rw[ar]
  cases hg:e8 (r.length:Int) bO with
  |false=>
   rw[hg] at hz n1;simp only[f66,c1,Option.bind_some,n1,uY,Option.isSome_some,Bool.not_false,Bool.not_true,cond_false,cond_true,hz];rfl
  |true=>
   rw[hg] at hz n1;obtain⟨n,h1,_,h3⟩:=NJ hg;rw[h1] at hz n1;have s1:br r 0 (n:Int)=some (r.take n):=gI (by omega)
   have s2:br r (n:Int) ((r.length:Nat):Int)=some (r.drop n):=gu (by omega)
   simp only[f66,c1,Option.bind_some,n1,uY,Option.isSome_some,Bool.not_false,Bool.not_true,cond_false,cond_true,s1,s2,hz];rfl
theorem MO{s x y:F}(h:k7 s=some (x,y)):s=dv x++y/\y.length<s.length:=by
 unfold k7 at h;cases ar:dk 10 s with
 |none=>rw[ar] at h;cases h
 |some q=>
  obtain⟨bO,r⟩:=q;rw[ar] at h;have hs:=(iV ar).1;have h:(bif e8 (r.length:Int) bO then some (r.take (c9 bO).toNat,r.drop (c9 bO).toNat) else none)=some (x,y):=h
  cases hg:e8 (r.length:Int) bO with
  |false=>rw[hg] at h;cases h
  |true=>
   rw[hg] at h;obtain⟨n,h1,h2,h3⟩:=NJ hg;simp only[cond_true,Option.some.injEq,Prod.mk.injEq,h1,Int.toNat_natCast] at h;obtain⟨rfl,rfl⟩:=h;have hlen:(r.take n).length=n:=by simp;omega
   refine⟨?_,?_⟩
   ·unfold dv;rw[hlen,<-h2,hs];simp
   ·rw[hs];simp;omega
theorem acn(x y:F)(hQ:x.length<1000000000):k7 (dv x++y)=some (x,y):=by
 unfold k7;rw[Np];obtain⟨g1,g2⟩:=EE (n:=x.length) (m:=((x++y).length:Int)) (by simp;omega) hQ
 show(bif e8 ((x++y).length:Int) (Lib.itoa (x.length:Int)) then _ else _)=_
 rw[g1,g2];simp
noncomputable abbrev arQ:bi:=[(43,Cw),(66,Yc),(67,Yb)]
theorem KR:a_ U (bg aj arQ):=bf ⟨Jq,aon,aom,⟨⟩⟩
abbrev OE:Shape:=⟨[aM 2 2 0,bc 4 3000256,ao 6,ao 7,au 8],[bx 5000128 .pack 2 0,aL 2 [.own 5000128],bb 3000256 .pack 4 0],48⟩
abbrev On:List aO:=[(.norm,⟨[aM 2 2 0,bc 4 3000256,ao 6,ao 7,au 26],[bx 5000128 .pack 2 0,aL 2 [.own 5000128],bb 3000256 .pack 4 0],48⟩)]
noncomputable def pS(y:OE.J):Option (aD On):=
 bif(!(!y.1.2.2.2.2.1)) then
 some (((),(),y.1.2.2.1,y.1.2.2.2.1,((y.2.2.2.1.length:Int)==(5:Int)),()),y.2.1,((),()),y.2.2.2.1,())
else
 some (((),(),y.1.2.2.1,y.1.2.2.2.1,true,()),y.2.1,((),()),y.2.2.2.1,())
theorem aes:aY U (an (da (an (codeOf Tryz.f35) 1 60)) 120 3860) (a' OE On pS):=cW KR (by kernel_rfl) ag fun y=>by kernel_rfl
abbrev Ai:Shape:=⟨[aM 2 2 0,bc 4 3000256,ao 5],[bx 5000128 .pack 2 0,aL 2 [.own 5000128],bb 3000256 .pack 4 0],48⟩
abbrev G_:List aO:=[(.ret,⟨[aM 2 2 0,au 3],[bx 5000128 .pack 2 0,aL 2 [.own 5000128]],48⟩),(.exit 0,⟨[aM 2 2 0,bc 4 3000256],[bx 5000128 .pack 2 0,aL 2 [.own 5000128],bb 3000256 .pack 4 0],48⟩)]
noncomputable def oK(y:Ai.J):bR Ai G_:=
 bif(!(y.1.2.2.1==([]:F))) then
(f66 ((y.1.2.2.1,()),())).bind fun a=>
(pS (((),(),a.1.1,a.1.2.1,a.1.2.2.1,()),y.2.1,((),()),y.2.2.2.1,())).bind fun b=>
 bif b.1.2.2.2.2.1 then
 some (.inr (.inl (((),false,()),([]:List aW),((),()),())))
else
(f67 ((b.1.2.2.1,()),())).bind fun c=>
 bif(!c.1.2.1) then
 some (.inr (.inl (((),false,()),([]:List aW),((),()),())))
else
(cy 80 b.2.2.2.1 ([(aW.mk c.2.2.2.1.1 c.2.2.2.1.2.1 c.2.1 c.2.2.1)]:List aW)).bind fun d=>
 some (.inl (((),(),b.1.2.2.2.1,()),b.2.1,((),()),d,()))
else
 some (.inr (.inr (((),(),()),y.2.1,((),()),y.2.2.2.1,())))
noncomputable def uV:Ai.J->Option (aD G_):=bv oK
theorem aif:aY U (an (codeOf Tryz.f35) 1 60) (a' Ai G_ uV):=bT KR (by kernel_rfl) (ba aes ag) fun y=>by kernel_rfl
abbrev i35:Shape:=⟨[ao 0],[],48⟩
abbrev vZ:Shape:=⟨[aM 2 2 0,au 3],[bx 5000128 .pack 2 0,aL 2 [.own 5000128]],48⟩
noncomputable def f35(a:i35.J):Option vZ.J:=
(uV (((),(),a.1.1,()),([]:List aW),((),()),([]:List aW),())).bind fun b=>
(match b with
|.inl c=>
 some (((),c.1.2.1,()),c.2.1,((),()),())
|.inr d=>
(f43 (((d.2.2.2.1,()),()),())).bind fun e=>
 bif(!e.1.1) then
 some (((),false,()),([]:List aW),((),()),())
else
 some (((),true,()),d.2.2.2.1,((),()),()))
noncomputable def Yl:aH:=aP aj Tryz.f35 i35 vZ [] f35
theorem aov:aG U 35 Yl:=aS KR Tryz.func35 (by kernel_rfl) (ba aif ag) (fun y=>by kernel_rfl) fun a=>by kernel_rfl
noncomputable abbrev arY:bi:=[(35,Yl)]
theorem asg:a_ U (bg aj arY):=bf ⟨aov,⟨⟩⟩
abbrev i14:Shape:=⟨[cC 0 [ai,ai]],[],17⟩
abbrev B0:Shape:=⟨[au 2],[],17⟩
noncomputable def f14(a:i14.J):Option B0.J:=
(f35 ((a.1.1.1,()),())).bind fun b=>
 bif b.1.2.1 then
 some (((a.1.1.2.1==([]:F)),()),())
else
 some ((false,()),())
noncomputable def wG:aH:=aP aj Tryz.f14 i14 B0 [] f14
theorem Wr:aG U 14 wG:=aS asg Tryz.func14 (by kernel_rfl) ag (fun y=>by kernel_rfl) fun a=>by kernel_rfl
abbrev oZ(ps:List aW):Prop:=∀p,p∈ps->cB p=true/\(bA p).length<=4000
def pb(s:F)(ps:List aW):Prop:=fM ps=true/\cN ps=s/\oZ ps
abbrev Lm(ps:List aW):vZ.J:=(((),(true,())),(ps,(((),()),())))
abbrev KB:vZ.J:=(((),(false,())),(([]:List aW),(((),()),())))
def ara(B:Option (List aW)):vZ.J:=match B with|some ps=>Lm ps|none=>KB
theorem zh{ps:List aW}(h:oZ ps)(hl:ps.length<=6):fS ps/\nc ps:=by
 refine⟨⟨by show ps.length<=2097152;omega,fun p hp=>Hb (h p hp).1 (h p hp).2⟩,fun p hp=>?_⟩
 obtain⟨hk,ar⟩:=h p hp;obtain⟨q1,q2,cU,jm⟩:=xm p;refine⟨by omega,fun n hn=>?_⟩
 have h:=C2 cG hn;have iq:(cG n).length=(cH n).length+6:=by unfold cG;simp
 have hp:n.name.length+n.aV.length<=(cH n).length:=by unfold cH;simp
 omega
theorem DJ(p:aW)(ps:List aW):cN (p::ps)=dv (bA p)++cN ps:=by unfold cN;rw[List.flatMap_cons]
theorem ahS:∀(m:Nat) (s:F) (ps:List aW),s.length<=m->m<=1000000000->ps.length<=5->
  uV (((),((),(s,()))),(([]:List aW),(((),()),(ps,()))))=some (.inl KB)\/
  ∃b0:List aW,uV (((),((),(s,()))),(([]:List aW),(((),()),(ps,()))))=some (.inr (((),((),())),(([]:List aW),(((),()),(ps++b0,())))))/\cN b0=s/\oZ b0/\(ps++b0).length<=5:=by
 intro m;induction m with
 |zero=>
  intro s ps hs _ hl;have:s=[]:=List.length_eq_zero_iff.1 (by omega)
  subst this;exact .inr ⟨[],by rw[List.append_nil];exact ca rfl,rfl,fun p hp=>(by cases hp),by simpa using hl⟩
 |succ m ih=>
  intro s ps hs hm hl;cases s with
  |nil=>exact .inr ⟨[],by rw[List.append_nil];exact ca rfl,rfl,fun p hp=>(by cases hp),by simpa using hl⟩
  |cons b fJ=>
   have hne:((b::fJ)==([]:F))=false:=rfl;generalize eA:b::fJ=s at hs hne;have z:=L6 s (by unfold ap;omega)
   cases hz:k7 s with
   |none=>
    rw[hz] at z;refine .inl (ca ?_);simp only[oK,hne,Bool.not_false,cond_true,z,Option.bind_some,Option.isSome_none,pS,Bool.not_true,cond_false]
   |some q=>
    obtain⟨x,y⟩:=q;obtain⟨aB,aA⟩:=MO hz;rw[hz] at z;have z:f66 ((s,()),())=some ((x,(y,(true,()))),()):=z;by_cases bk:ps.length=5
    ·refine .inl (ca ?_);have d:(((ps.length:Nat):Int)==5)=true:=by rw[beq_iff_eq];omega
     simp only[oK,hne,Bool.not_false,cond_true,z,Option.bind_some,pS,Bool.not_true,cond_false,d]
    ·have d:(((ps.length:Nat):Int)==5)=false:=by rw[beq_eq_false_iff_ne];omega
     have hx:x.length<=s.length:=by rw[aB];unfold dv;simp;omega
     obtain⟨B,g1,g2⟩:=aaF x (by unfold ap;omega)
     cases B with
     |none=>
      have g1:f67 ((x,()),())=some Ln:=g1;refine .inl (ca ?_);simp only[oK,hne,Bool.not_false,cond_true,z,Option.bind_some,pS,Bool.not_true,cond_false,d,g1]
     |some p=>
      have g1:f67 ((x,()),())=some (rk p):=g1;obtain⟨iP,iu,p3⟩:=(g2 p).1 rfl;have fc:cy 80 ps ([(aW.mk p.name p.aV p.bl p.bQ)]:List aW)=some (ps++[p]):=d' (by decide) (by unfold ap;simp;omega)
      have st:oK (((),((),(s,()))),(([]:List aW),(((),()),(ps,()))))=some (.inl (((),((),(y,()))),(([]:List aW),(((),()),(ps++[p],()))))):=by
       simp only[oK,hne,Bool.not_false,cond_true,z,Option.bind_some,pS,Bool.not_true,cond_false,d,g1,fc]
      rcases ih y (ps++[p]) (by omega) (by omega) (by simp;omega) with e|⟨b0,e1,e2,bp,c_⟩
      ·exact .inl ((dz st).trans e)
      ·rw[List.append_assoc] at e1 c_;refine .inr ⟨p::b0,(dz st).trans e1,by rw[DJ,e2,iu,<-aB],fun r hr=>?_,c_⟩
       rcases List.mem_cons.1 hr with rfl|hr
       ·exact⟨iP,by rw[iu];exact p3⟩
       ·exact bp r hr
theorem ahR:∀(b0 ps:List aW),oZ b0->ps.length+b0.length<=5->
  uV (((),((),(cN b0,()))),(([]:List aW),(((),()),(ps,()))))=some (.inr (((),((),())),(([]:List aW),(((),()),(ps++b0,()))))):=by
 intro b0;induction b0 with
 |nil=>intro ps _ _;rw[List.append_nil];exact ca rfl
 |cons p b0 ih=>
  intro ps h hl;obtain⟨h1,h2⟩:=h p List.mem_cons_self;have hz:=acn (bA p) (cN b0) (by omega)
  rw[<-DJ] at hz;have hlen:(cN (p::b0)).length<=30000:=by
   have:=pW (f:=fun p=>dv (bA p)) (xs:=p::b0) (n:=5000) fun q ar=>by
    have:=(h q ar).2;have:=k2 (bA q).length (by omega)
    show(dv (bA q)).length<=5000;unfold dv;simp;omega
   have e:(cN (p::b0)).length=((p::b0).flatMap fun p=>dv (bA p)).length:=rfl
   simp only[List.length_cons] at hl this;have cp:(b0.length+1)*5000<=6*5000:=Nat.mul_le_mul_right _ (by omega)
   omega
  have z:=L6 (cN (p::b0)) (by unfold ap;omega)
  rw[hz] at z;have z:f66 ((cN (p::b0),()),())=some ((bA p,(cN b0,(true,()))),()):=z;have g1:=CU h1 h2;have hne:(cN (p::b0)==([]:F))=false:=by
   have:=(MO hz).2;cases hx:cN (p::b0) with
   |nil=>rw[hx] at this;simp at this
   |cons b r=>rfl
  have d:(((ps.length:Nat):Int)==5)=false:=by rw[beq_eq_false_iff_ne];simp at hl;omega
  have fc:cy 80 ps ([(aW.mk p.name p.aV p.bl p.bQ)]:List aW)=some (ps++[p]):=d' (by decide) (by unfold ap;simp;simp at hl;omega)
  have st:oK (((),((),(cN (p::b0),()))),(([]:List aW),(((),()),(ps,()))))=some (.inl (((),((),(cN b0,()))),(([]:List aW),(((),()),(ps++[p],()))))):=by
   simp only[oK,hne,Bool.not_false,cond_true,z,Option.bind_some,pS,Bool.not_true,cond_false,d,g1,fc]
  have:=ih (ps++[p]) (fun r hr=>h r (List.mem_cons_of_mem _ hr)) (by simp at hl ⊢;omega)
  rw[List.append_assoc] at this;exact(dz st).trans this
theorem aaE(s:F)(hs:s.length<=1000000000):∃B:Option (List aW),f35 ((s,()),())=some (ara B)/\nG B (pb s):=by
 have put:∀ps:List aW,pb s ps->f35 ((s,()),())=some (Lm ps):=by
  intro ps ⟨h1,h2,h3⟩;subst h2;have hl:ps.length<=5:=(nf h1).2;obtain⟨hb,hv⟩:=zh h3 (by omega)
  have g:=ahR ps [] h3 (by simpa using hl)
  have e:=xw (((ps,()),()),()) hb hv;have e:f43 (((ps,()),()),())=some ((fM ps,()),()):=e;rw[h1] at e;simp only[f35,g,List.nil_append,Option.bind_some,e,Bool.not_true,cond_false]
 have any:f35 ((s,()),())=some KB\/∃ps,f35 ((s,()),())=some (Lm ps)/\pb s ps:=by
  rcases ahS s.length s [] (Nat.le_refl _) hs (by decide) with g|⟨b0,g,h1,h2,h3⟩
  ·refine .inl ?_
   simp only[f35,g,Option.bind_some]
  ·rw[List.nil_append] at g h3;obtain⟨hb,hv⟩:=zh h2 (by omega)
   have e:=xw (((b0,()),()),()) hb hv;have e:f43 (((b0,()),()),())=some ((fM b0,()),()):=e;cases hr:fM b0 with
   |false=>
    rw[hr] at e;refine .inl ?_
    simp only[f35,g,Option.bind_some,e,Bool.not_false,cond_true]
   |true=>
    rw[hr] at e;refine .inr ⟨b0,?_,hr,h1,h2⟩;simp only[f35,g,Option.bind_some,e,Bool.not_true,cond_false]
 rcases any with h|⟨ps,h,hr⟩
 ·refine⟨none,h,fun p=>⟨fun hp=>(by cases hp),fun hp=>?_⟩⟩
  have:=put p hp;rw[h] at this;simp only[Option.some.injEq,Prod.mk.injEq] at this;exact absurd this.1.2.1 (by decide)
 ·refine⟨some ps,h,fun q=>⟨fun hp=>by cases hp;exact hr,fun hp=>?_⟩⟩
  have:=put q hp;rw[h] at this;simp only[Option.some.injEq,Prod.mk.injEq] at this;rw[this.2.1]
theorem abW(s t:F)(hs:s.length<=1000000000):∃B:Option (List aW),f14 (((s,(t,())),()),())=some ((B.isSome&&t==[],()),())/\nG B (pb s):=by
 obtain⟨B,h1,h2⟩:=aaE s hs;refine⟨B,?_,h2⟩;simp only[f14,h1,Option.bind_some];cases B<;>rfl
theorem Nn{c:UInt8}{k:Nat}{s:F}(h:b7 c s):splitN c k s=[s]:=by
 cases k with
 |zero=>rfl
 |succ k=>unfold splitN;rw[ahd h]
theorem MI{c:UInt8}{k:Nat}{a b:F}(h:b7 c a):splitN c (k+1) (a++c::b)=a::splitN c k b:=by
 show(match dk c (a++c::b) with|some (x,y)=>x::splitN c k y|none=>[a++c::b])=_
 rw[rS h]
theorem afQ(pre mid rest:F):br (pre++mid++rest) (pre.length:Int) ((pre.length+mid.length:Nat):Int)=some mid:=by
 rw[pO (by omega) (by simp),show pre.length+mid.length=(pre++mid).length by simp,List.take_left' rfl,List.drop_left' rfl]
theorem agW(c:UInt8)(s:F)(hs:s.length<=1000000000):∀(rest mid pre:F) (parts:List F) (k jY:Nat),s=pre++mid++rest->b7 c mid->parts.length+k=jY->parts.length<=pre.length->
  ∃(Hc:List F) (Ic t:F),uD ((s,((c.toNat:Int),((jY:Int),((),((pre.length:Int),(((pre.length+mid.length:Nat):Int),())))))),(parts,()))=some ((s,((),((Ic.length:Int),()))),(Hc,()))/\s=Ic++t/\Hc++[t]=parts++splitN c k (mid++rest)/\Hc.length<=Ic.length:=by
 intro rest;induction rest with
 |nil=>
  intro mid pre parts k jY h1 h2 h3 aw;rw[List.append_nil] at h1;refine⟨parts,pre,mid,ca ?_,h1,by rw[List.append_nil,Nn h2],aw⟩
  have d:decide (((pre.length+mid.length:Nat):Int)<(s.length:Int))=false:=decide_eq_false (by rw[h1];simp)
  simp only[oB,d,cond_false]
 |cons b r ih=>
  intro mid pre parts k jY h1 h2 h3 aw;have hl:s.length=pre.length+mid.length+1+r.length:=by rw[h1];simp;omega
  have d:decide (((pre.length+mid.length:Nat):Int)<(s.length:Int))=true:=decide_eq_true (by omega)
  cases k with
  |zero=>
   refine⟨parts,pre,mid++b::r,ca ?_,by rw[h1,List.append_assoc],rfl,aw⟩
   have d2:decide (((parts.length:Nat):Int)<(jY:Int))=false:=decide_eq_false (by omega)
   simp only[oB,d,d2,cond_true,cond_false]
  |succ k=>
   have d2:decide (((parts.length:Nat):Int)<(jY:Int))=true:=decide_eq_true (by omega)
   have hx:aU s ((pre.length+mid.length:Nat):Int)=some b:=by
    rw[bX,h1,List.getElem?_append_right (by simp)]
    simp
   have hw:IntKind.i64.wrap (((pre.length+mid.length:Nat):Int)+1)=((pre.length+mid.length+1:Nat):Int):=bS (by unfold ap;omega)
   by_cases hb:b=c
   ·subst hb;have ar:(((b.toNat:Nat):Int)==(b.toNat:Int))=true:=by simp
    have hm:br s (pre.length:Int) ((pre.length+mid.length:Nat):Int)=some mid:=by rw[h1];exact afQ pre mid _
    have ha:cy 16 parts ([mid]:List F)=some (parts++[mid]):=d' (by decide) (by unfold ap;simp;omega)
    have hp:(pre++mid++[b]).length=pre.length+mid.length+1:=by simp;omega
    obtain⟨kd,fl,t,g1,g2,g3,g4⟩:=ih [] (pre++mid++[b]) (parts++[mid]) k jY (by rw[h1];simp) (b7.nil b) (by simp;omega) (by rw[hp];simp;omega)
    rw[hp] at g1;refine⟨kd,fl,t,(dz ?_).trans g1,g2,?_,g4⟩
    ·simp only[oB,d,d2,cond_true,hx,Option.bind_some,ar,hm,ha,hw];rfl
    ·rw[g3,MI h2];simp
   ·have ar:(((b.toNat:Nat):Int)==(c.toNat:Int))=false:=by
     rw[beq_eq_false_iff_ne];intro h;exact hb (UInt8.toNat_inj.1 (by omega))
    obtain⟨kd,fl,t,g1,g2,g3,g4⟩:=ih (mid++[b]) pre parts (k+1) jY (by rw[h1];simp) (h2.cT fun x hx=>by rw[List.mem_singleton.1 hx];exact hb) h3 aw
    have hp:pre.length+(mid++[b]).length=pre.length+mid.length+1:=by simp;omega
    rw[hp] at g1;refine⟨kd,fl,t,(dz ?_).trans g1,g2,?_,g4⟩
    ·simp only[oB,d,d2,cond_true,hx,Option.bind_some,ar,cond_false,hw]
    ·rw[g3];simp
theorem lC(c:UInt8)(s:F)(hs:s.length<=1000000000)(jY:Nat):f73 ((s,((c.toNat:Int),((jY:Int),()))),())=some (((),()),(splitN c jY s,())):=by
 obtain⟨kd,fl,t,g1,g2,g3,g4⟩:=agW c s hs s [] [] [] jY jY rfl (b7.nil c) (by simp) (Nat.le_refl _)
 have g1:uD ((s,((c.toNat:Int),((jY:Int),((),((0:Int),((0:Int),())))))),(([]:List F),()))=_:=g1;have ar:fl.length<=s.length:=by rw[g2];simp
 have e1:br s (fl.length:Int) ((s.length:Nat):Int)=some t:=by rw[gu ar,g2];simp
 have e2:cy 16 kd ([t]:List F)=some (kd++[t]):=d' (by decide) (by unfold ap;simp;omega)
 simp only[f73,g1,Option.bind_some,e1,e2,g3];rfl
noncomputable abbrev amV:bi:=[(192,I4),(218,IZ),(225,IY)]
theorem BL:a_ U (bg aj amV):=bf ⟨Si,z218,Sf,⟨⟩⟩
abbrev yR:Shape:=⟨[ao 0,aM 2 2 0,au 3,ae 4],[aL 2 [ai,bq,ai]],75⟩
abbrev Fz:List aO:=[(.exit 0,⟨[ao 0,aM 2 2 0,au 3,ae 4],[aL 2 [ai,bq,ai]],75⟩)]
noncomputable def p_(y:yR.J):bR yR Fz:=
 bif(decide (y.1.2.2.2.1<(y.1.1.length:Int))) then
(aU y.1.1 y.1.2.2.2.1).bind fun a=>
 bif((a.toNat:Int) !=(61:Int)) then
(aU y.1.1 y.1.2.2.2.1).bind fun b=>
 bif((b.toNat:Int) !=(62:Int)) then
(aU y.1.1 y.1.2.2.2.1).bind fun c=>
 bif((c.toNat:Int) !=(60:Int)) then
 some (.inl ((y.1.1,(),y.1.2.2.1,(IntKind.i64.wrap (y.1.2.2.2.1+(1:Int))),()),(y.2.1.1,y.2.1.2.1,y.2.1.2.2.1,()),()))
else
 some (.inr ((y.1.1,(),y.1.2.2.1,y.1.2.2.2.1,()),(y.2.1.1,y.2.1.2.1,y.2.1.2.2.1,()),()))
else
 some (.inr ((y.1.1,(),y.1.2.2.1,y.1.2.2.2.1,()),(y.2.1.1,y.2.1.2.1,y.2.1.2.2.1,()),()))
else
 some (.inr ((y.1.1,(),y.1.2.2.1,y.1.2.2.2.1,()),(y.2.1.1,y.2.1.2.1,y.2.1.2.2.1,()),()))
else
 some (.inr ((y.1.1,(),y.1.2.2.1,y.1.2.2.2.1,()),(y.2.1.1,y.2.1.2.1,y.2.1.2.2.1,()),()))
noncomputable def zf:yR.J->Option (aD Fz):=bv p_
theorem agm:aY U (an (codeOf Tryz.f179) 1 28) (a' yR Fz zf):=bT BL (by kernel_rfl) ag fun y=>by kernel_rfl
abbrev MM:Shape:=⟨[ao 0,aM 2 2 0,au 3,aM 5 5 0,ao 6,ae 7,ao 8],[aL 2 [ai,bq,ai],aL 5 [ai,bq,ai]],75⟩
abbrev MF:List aO:=[(.norm,⟨[ao 0,aM 2 2 0,au 3,aM 5 5 0,ao 6,ae 7,ao 8,au 58],[aL 2 [ai,bq,ai],aL 5 [ai,bq,ai]],75⟩)]
noncomputable def Dk(y:MM.J):Option (aD MF):=
 bif(decide ((y.1.2.2.2.2.1.length:Int)>=(y.1.2.2.2.2.2.2.1.length:Int))) then
(br y.1.2.2.2.2.1 (0:Int) (y.1.2.2.2.2.2.2.1.length:Int)).bind fun a=>
 some ((y.1.1,(),y.1.2.2.1,(),y.1.2.2.2.2.1,y.1.2.2.2.2.2.1,y.1.2.2.2.2.2.2.1,(a==y.1.2.2.2.2.2.2.1),()),(y.2.1.1,y.2.1.2.1,y.2.1.2.2.1,()),(y.2.2.1.1,y.2.2.1.2.1,y.2.2.1.2.2.1,()),())
else
 some ((y.1.1,(),y.1.2.2.1,(),y.1.2.2.2.2.1,y.1.2.2.2.2.2.1,y.1.2.2.2.2.2.2.1,false,()),(y.2.1.1,y.2.1.2.1,y.2.1.2.2.1,()),(y.2.2.1.1,y.2.2.1.2.1,y.2.2.1.2.2.1,()),())
theorem aa0:aY U (an (da (an (codeOf Tryz.f179) 1 506)) 1012 32402) (a' MM MF Dk):=cW BL (by kernel_rfl) ag fun y=>by kernel_rfl
abbrev x':Shape:=⟨[ao 0,aM 2 2 0,au 3,aM 5 5 0,ao 6,ae 7],[aL 2 [ai,bq,ai],aL 5 [ai,bq,ai]],75⟩
abbrev Ep:List aO:=[(.exit 2,⟨[ao 0,aM 2 2 0,au 3,aM 5 5 0],[aL 2 [ai,bq,ai],aL 5 [ai,bq,ai]],75⟩)]
noncomputable def uo(y:x'.J):bR x' Ep:=
 bif(decide (y.1.2.2.2.2.2.1<=(3:Int))) then
(f225 ((y.1.2.2.2.2.2.1,()),())).bind fun a=>
(Dk ((y.1.1,(),y.1.2.2.1,(),y.1.2.2.2.2.1,y.1.2.2.2.2.2.1,a.1.1,()),(y.2.1.1,y.2.1.2.1,y.2.1.2.2.1,()),(y.2.2.1.1,y.2.2.1.2.1,y.2.2.1.2.2.1,()),())).bind fun b=>
 bif b.1.2.2.2.2.2.2.2.1 then
(br b.1.2.2.2.2.1 (b.1.2.2.2.2.2.2.1.length:Int) (b.1.2.2.2.2.1.length:Int)).bind fun c=>
 some (.inl ((b.1.1,(),b.1.2.2.1,(),b.1.2.2.2.2.1,(IntKind.i64.wrap (b.1.2.2.2.2.2.1+(1:Int))),()),(b.2.1.1,b.2.1.2.1,b.2.1.2.2.1,()),(b.2.2.1.1,b.1.2.2.2.2.2.1,c,()),()))
else
 some (.inl ((b.1.1,(),b.1.2.2.1,(),b.1.2.2.2.2.1,(IntKind.i64.wrap (b.1.2.2.2.2.2.1+(1:Int))),()),(b.2.1.1,b.2.1.2.1,b.2.1.2.2.1,()),(b.2.2.1.1,b.2.2.1.2.1,b.2.2.1.2.2.1,()),()))
else
 some (.inr ((y.1.1,(),y.1.2.2.1,(),()),(y.2.1.1,y.2.1.2.1,y.2.1.2.2.1,()),(y.2.2.1.1,y.2.2.1.2.1,y.2.2.1.2.2.1,()),()))
noncomputable def ES:x'.J->Option (aD Ep):=bv uo
theorem aeE:aY U (an (codeOf Tryz.f179) 1 506) (a' x' Ep ES):=bT BL (by kernel_rfl) (ba aa0 ag) fun y=>by kernel_rfl
abbrev i179:Shape:=⟨[ao 0],[],75⟩
abbrev Tk:Shape:=⟨[aM 2 2 0,au 3],[aL 2 [ai,bq,ai]],75⟩
noncomputable def f179(a:i179.J):Option Tk.J:=
(zf ((a.1.1,(),false,(0:Int),()),(([]:F),(0:Int),([]:F),()),())).bind fun b=>
(br b.1.1 (0:Int) b.1.2.2.2.1).bind fun c=>
(br b.1.1 b.1.2.2.2.1 (b.1.1.length:Int)).bind fun d=>
(ES ((b.1.1,(),b.1.2.2.1,(),d,(1:Int),()),(b.2.1.1,b.2.1.2.1,b.2.1.2.2.1,()),(c,(0:Int),([]:F),()),())).bind fun e=>
(f192 (((e.2.2.1.1,e.2.2.1.2.1,e.2.2.1.2.2.1,()),()),())).bind fun f=>
 bif f.1.1 then
(f218 (((e.2.2.1.1,e.2.2.1.2.1,e.2.2.1.2.2.1,()),()),())).bind fun g=>
 some (((),(g.1.1==e.1.1),()),(e.2.2.1.1,e.2.2.1.2.1,e.2.2.1.2.2.1,()),())
else
 some (((),false,()),(e.2.2.1.1,e.2.2.1.2.1,e.2.2.1.2.2.1,()),())
noncomputable def Vh:aH:=aP aj Tryz.f179 i179 Tk [] f179
theorem akK:aG U 179 Vh:=aS BL Tryz.func179 (by kernel_rfl) (ba agm (ba aeE ag)) (fun y=>by kernel_rfl) fun a=>by kernel_rfl
theorem agY(s:F)(hs:s.length<=1000000000):∀(t a:F),s=a++t->(∀y,y∈a->eJ.contains y=false)->
  ∃cM bj:F,zf ((s,((),(false,((a.length:Int),())))),((([]:F),((0:Int),(([]:F),()))),()))=some ((s,((),(false,((cM.length:Int),())))),((([]:F),((0:Int),(([]:F),()))),()))/\s=cM++bj/\(∀y,y∈cM->eJ.contains y=false)/\(bj=[]\/∃x r,bj=x::r/\eJ.contains x=true):=by
 intro t;induction t with
 |nil=>
  intro a h1 h2;refine⟨a,[],ca ?_,h1,h2,.inl rfl⟩;have d:decide (((a.length:Nat):Int)<(s.length:Int))=false:=decide_eq_false (by rw[h1];simp)
  simp only[p_,d,cond_false]
 |cons b r ih=>
  intro a h1 h2;have hl:s.length=a.length+1+r.length:=by rw[h1];simp;omega
  have d:decide (((a.length:Nat):Int)<(s.length:Int))=true:=decide_eq_true (by omega)
  have hx:aU s (a.length:Int)=some b:=by
   rw[bX,h1,List.getElem?_append_right (by omega)];simp
  have hw:IntKind.i64.wrap (((a.length:Nat):Int)+1)=((a.length+1:Nat):Int):=bS (by unfold ap;omega)
  cases hb:eJ.contains b with
  |true=>
   refine⟨a,b::r,ca ?_,h1,h2,.inr ⟨b,r,rfl,hb⟩⟩;have hc:b=61\/b=60\/b=62:=by simpa[eJ] using hb
   rcases hc with rfl|rfl|rfl
   ·have t1:((((61:UInt8).toNat:Nat):Int) !=61)=false:=rfl;simp only[p_,d,cond_true,hx,Option.bind_some,t1,cond_false]
   ·have t1:((((60:UInt8).toNat:Nat):Int) !=61)=true:=rfl;have t2:((((60:UInt8).toNat:Nat):Int) !=62)=true:=rfl;have t3:((((60:UInt8).toNat:Nat):Int) !=60)=false:=rfl;simp only[p_,d,cond_true,hx,Option.bind_some,t1,t2,t3,cond_false]
   ·have t1:((((62:UInt8).toNat:Nat):Int) !=61)=true:=rfl;have t2:((((62:UInt8).toNat:Nat):Int) !=62)=false:=rfl;simp only[p_,d,cond_true,hx,Option.bind_some,t1,t2,cond_false]
  |false=>
   have hc:¬(b=61\/b=60\/b=62):=by
    intro h;rcases h with rfl|rfl|rfl<;>revert hb<;>decide
   have ne:∀k:UInt8,b≠k->(((b.toNat:Nat):Int) !=(k.toNat:Int))=true:=fun k hk=>by
    rw[bne_iff_ne];intro h;exact hk (UInt8.toNat_inj.1 (by omega))
   have t1:(((b.toNat:Nat):Int) !=61)=true:=ne 61 fun h=>hc (.inl h)
   have t2:(((b.toNat:Nat):Int) !=62)=true:=ne 62 fun h=>hc (.inr (.inr h))
   have t3:(((b.toNat:Nat):Int) !=60)=true:=ne 60 fun h=>hc (.inr (.inl h))
   have st:p_ ((s,((),(false,((a.length:Int),())))),((([]:F),((0:Int),(([]:F),()))),()))=some (.inl ((s,((),(false,(((a.length+1:Nat):Int),())))),((([]:F),((0:Int),(([]:F),()))),()))):=by
    simp only[p_,d,cond_true,hx,Option.bind_some,t1,t2,t3,hw]
   obtain⟨cM,bj,g1,g2⟩:=ih (a++[b]) (by rw[h1];simp) (fun y hy=>by
    rcases List.mem_append.1 hy with hy|hy
    ·exact h2 y hy
    ·rw[List.mem_singleton.1 hy];exact hb)
   rw[show(a++[b]).length=a.length+1 by simp] at g1
   exact⟨cM,bj,(dz st).trans g1,g2⟩
def iL(t:F)(k:Int)(q:Int×F):Int×F:=match dM (dE k) t with|some r=>(k,r)|none=>q
theorem F3(s t bE v:F)(k q:Int)(h:k<=3)(h0:0<=k):
  uo ((s,((),(false,((),(t,(k,())))))),((([]:F),((0:Int),(([]:F),()))),((bE,(q,(v,()))),())))=some (.inl ((s,((),(false,((),(t,(k+1,())))))),((([]:F),((0:Int),(([]:F),()))),((bE,((iL t k (q,v)).1,((iL t k (q,v)).2,()))),())))):=by
 have d:decide (k<=3)=true:=decide_eq_true h;have e:=Oa k;have hw:IntKind.i64.wrap (k+1)=k+1:=eg (by omega) (by omega)
 unfold iL dM;have Z:decide (((t.length:Nat):Int)>=(((dE k).length:Nat):Int))=decide ((dE k).length<=t.length):=by congr 1;apply propext;omega
 simp only[uo,d,cond_true,e,Option.bind_some,Dk,Z];cases hc:decide ((dE k).length<=t.length) with
 |false=>simp only[cond_false,Option.bind_some,Bool.false_and,hw]
 |true=>
  have hle:=of_decide_eq_true hc;have e1:br t 0 (((dE k).length:Nat):Int)=some (t.take (dE k).length):=gI hle;have e2:br t (((dE k).length:Nat):Int) ((t.length:Nat):Int)=some (t.drop (dE k).length):=gu hle;simp only[cond_true,e1,Option.bind_some,Bool.true_and];cases t.take (dE k).length==dE k with
  |false=>simp only[cond_false,hw]
  |true=>simp only[cond_true,e2,Option.bind_some,hw]
theorem ach:∀{a cM t bj:F},a++t=cM++bj->(∀y,y∈a->eJ.contains y=false)->(∀y,y∈cM->eJ.contains y=false)->(t=[]\/∃x r,t=x::r/\eJ.contains x=true)->(bj=[]\/∃x r,bj=x::r/\eJ.contains x=true)->a=cM/\t=bj:=by
 intro a;induction a with
 |nil=>
  intro cM t bj h h1 h2 h3 aw;cases cM with
  |nil=>exact⟨rfl,h⟩
  |cons b r=>
   have hb:=h2 b List.mem_cons_self;rcases h3 with rfl|⟨x,ez,rfl,hx⟩
   ·cases h
   ·have:x=b:=by simp at h;exact h.1
    rw[this,hb] at hx;cases hx
 |cons b a ih=>
  intro cM t bj h h1 h2 h3 aw;cases cM with
  |nil=>
   have hb:=h1 b List.mem_cons_self;rcases aw with rfl|⟨x,ez,rfl,hx⟩
   ·cases h
   ·have:b=x:=by simp at h;exact h.1
    rw[<-this,hb] at hx;cases hx
  |cons bI cM=>
   simp only[List.cons_append,List.cons.injEq] at h;obtain⟨rfl,h⟩:=h;obtain⟨e1,e2⟩:=ih h (fun y hy=>h1 y (List.mem_cons_of_mem _ hy)) (fun y hy=>h2 y (List.mem_cons_of_mem _ hy)) h3 aw
   exact⟨by rw[e1],e2⟩
def fb(t:F):Int×F:=iL t 3 (iL t 2 (iL t 1 (0,[])))
theorem F4(t:F)(k:Int)(q:Int×F)(h:q.2.length<=t.length):(iL t k q).2.length<=t.length:=by
 unfold iL;split
 ·rename_i r hr;exact N1 hr
 ·exact h
theorem P2(t:F):(fb t).2.length<=t.length:=F4 t 3 _ (F4 t 2 _ (F4 t 1 _ (Nat.zero_le _)))
theorem O'(s:F)(hs:s.length<=2000000):∃(a t:F) (ok:Bool),f179 ((s,()),())=some (((),(ok,())),((a,((fb t).1,((fb t).2,()))),()))/\s=a++t/\(∀y,y∈a->eJ.contains y=false)/\(t=[]\/∃x r,t=x::r/\eJ.contains x=true):=by
 obtain⟨a,t,g1,h1,h2,h3⟩:=agY s (by omega) s [] rfl (fun y hy=>by cases hy)
 have g1:zf ((s,((),(false,((0:Int),())))),((([]:F),((0:Int),(([]:F),()))),()))=_:=g1;have hl:s.length=a.length+t.length:=by rw[h1];simp
 have e1:br s 0 ((a.length:Nat):Int)=some a:=by rw[gI (by omega),h1];simp
 have e2:br s ((a.length:Nat):Int) ((s.length:Nat):Int)=some t:=by rw[gu (by omega),h1];simp
 have s1:=F3 s t a [] 1 0 (by decide) (by decide)
 have s2:=F3 s t a (iL t 1 (0,[])).2 2 (iL t 1 (0,[])).1 (by decide) (by decide)
 have g_:=F3 s t a (iL t 2 (iL t 1 (0,[]))).2 3 (iL t 2 (iL t 1 (0,[]))).1 (by decide) (by decide)
 have YV:uo ((s,((),(false,((),(t,((3:Int)+1,())))))),((([]:F),((0:Int),(([]:F),()))),((a,((fb t).1,((fb t).2,()))),())))=some (.inr ((s,((),(false,((),())))),((([]:F),((0:Int),(([]:F),()))),((a,((fb t).1,((fb t).2,()))),())))):=by
  have d:decide ((3:Int)+1<=3)=false:=by decide
  simp only[uo,d,cond_false]
 have g2:ES ((s,((),(false,((),(t,((1:Int),())))))),((([]:F),((0:Int),(([]:F),()))),((a,((0:Int),(([]:F),()))),())))=some ((s,((),(false,((),())))),((([]:F),((0:Int),(([]:F),()))),((a,((fb t).1,((fb t).2,()))),()))):=
  (dz s1).trans ((dz s2).trans ((dz g_).trans (ca YV)))
 have hv:=P2 t;have bp:=Oe (((a,((fb t).1,((fb t).2,()))),()),()) (by show a.length<=2097152;omega) (by show(fb t).2.length<=2097152;omega)
 have c_:=O_ ⟨a,(fb t).1,(fb t).2⟩ ⟨by show a.length<=2097152;omega,by show(fb t).2.length<=2097152;omega⟩
 refine⟨a,t,du ⟨a,(fb t).1,(fb t).2⟩&&cH ⟨a,(fb t).1,(fb t).2⟩==s,?_,h1,h2,h3⟩;simp only[f179,g1,Option.bind_some,e1,e2,g2,bp];cases du ⟨a,(fb t).1,(fb t).2⟩ with
 |false=>rfl
 |true=>
  simp only[cond_true,c_,Option.bind_some];rfl
theorem _G(s:F)(hs:s.length<=2000000):∃(n:bB) (ok:Bool),f179 ((s,()),())=some (((),(ok,())),((n.name,(n.kind,(n.aV,()))),()))/\n.name.length<=s.length/\n.aV.length<=s.length:=by
 obtain⟨a,t,ok,h,h1,_⟩:=O' s hs;have hv:=P2 t;have hl:s.length=a.length+t.length:=by rw[h1];simp
 exact⟨⟨a,(fb t).1,(fb t).2⟩,ok,h,by show a.length<=_;omega,by show(fb t).2.length<=_;omega⟩
theorem _F{n:bB}(h:du n=true)(hs:(cH n).length<=2000000):∃ok:Bool,f179 ((cH n,()),())=some (((),(ok,())),((n.name,(n.kind,(n.aV,()))),())):=by
 obtain⟨a,t,ok,e,h1,h2,h3⟩:=O' (cH n) hs;obtain⟨aB,aA⟩:=xb h;have hno:=Oz (C0 aB);obtain⟨bE,k,v⟩:=n;have key:∀bj:F,cH ⟨bE,k,v⟩=bE++bj->(bj=[]\/∃x r,bj=x::r/\eJ.contains x=true)->fb bj=(k,v)->∃ok:Bool,f179 ((cH ⟨bE,k,v⟩,()),())=some (((),(ok,())),((bE,(k,(v,()))),())):=by
  intro bj q1 q2 cU;obtain⟨e1,e2⟩:=ach (h1.symm.trans q1) h2 hno h3 q2;subst e1 e2;rw[cU] at e;exact⟨ok,e⟩
 rcases aA with⟨hk,hv⟩|⟨hk,hv⟩
 ·have hk:k=0:=hk;have hv:v=[]:=hv;subst hk hv;exact key [] (by unfold cH dE;simp) (.inl rfl) (by decide)
 ·rcases hk with hk|hk|hk
  ·have hk:k=1:=hk;subst hk;refine key (61::v) (by unfold cH dE;simp) (.inr ⟨61,v,rfl,by decide⟩) ?_
   have d1:dM (dE 1) (61::v)=some v:=uj [61] v;have d2:dM (dE 2) (61::v)=none:=by unfold dM;cases v<;>simp[dE]
   have d3:dM (dE 3) (61::v)=none:=by unfold dM;simp[dE]
   simp only[fb,iL,d1,d2,d3]
  ·have hk:k=2:=hk;subst hk;refine key (62::61::v) (by unfold cH dE;simp) (.inr ⟨62,61::v,rfl,by decide⟩) ?_
   have d1:dM (dE 1) (62::61::v)=none:=by unfold dM;simp[dE]
   have d2:dM (dE 2) (62::61::v)=some v:=uj [62,61] v;have d3:dM (dE 3) (62::61::v)=none:=by unfold dM;simp[dE]
   simp only[fb,iL,d1,d2,d3]
  ·have hk:k=3:=hk;subst hk;refine key (60::v) (by unfold cH dE;simp) (.inr ⟨60,v,rfl,by decide⟩) ?_
   have d1:dM (dE 1) (60::v)=none:=by unfold dM;simp[dE]
   have d2:dM (dE 2) (60::v)=none:=by unfold dM;cases v<;>simp[dE]
   have d3:dM (dE 3) (60::v)=some v:=uj [60] v;simp only[fb,iL,d1,d2,d3]
noncomputable abbrev amU:bi:=[(73,tF),(74,Ct),(75,oc)]
theorem vN:a_ U (bg aj amU):=bf ⟨vR,Jo,z75,⟨⟩⟩
abbrev OI:Shape:=⟨[aM 2 2 0,ao 3,au 4,bc 5 3000320,bc 6 3000384],[aL 2 [ai,bq,bq,ai],bb 3000320 .str 5 0,bb 3000384 .str 6 0],110⟩
abbrev Ou:List aO:=[(.norm,⟨[aM 2 2 0,ao 3,au 4,bc 5 3000320,bc 6 3000384,au 18],[aL 2 [ai,bq,bq,ai],bb 3000320 .str 5 0,bb 3000384 .str 6 0],110⟩)]
noncomputable def ms(y:OI.J):Option (aD Ou):=
(a8 y.2.2.2.1.length (0:Int)).bind fun a=>
(y.2.2.2.1[a]?).bind fun b=>
 bif(b==([100,105,114]:F)) then
 some (((),y.1.2.1,y.1.2.2.1,(),(),((y.2.2.2.1.length:Int)==(3:Int)),()),(y.2.1.1,y.2.1.2.1,y.2.1.2.2.1,y.2.1.2.2.2.1,()),y.2.2.1,y.2.2.2.1,())
else
 some (((),y.1.2.1,y.1.2.2.1,(),(),false,()),(y.2.1.1,y.2.1.2.1,y.2.1.2.2.1,y.2.1.2.2.2.1,()),y.2.2.1,y.2.2.2.1,())
theorem aeD:aY U (an (codeOf Tryz.f180) 1 248) (a' OI Ou ms):=cW vN (by kernel_rfl) ag fun y=>by kernel_rfl
abbrev OH:Shape:=⟨[aM 2 2 0,ao 3,au 4,bc 5 3000320,bc 6 3000384],[aL 2 [ai,bq,bq,ai],bb 3000320 .str 5 0,bb 3000384 .str 6 0],110⟩
abbrev Ot:List aO:=[(.norm,⟨[aM 2 2 0,ao 3,au 4,bc 5 3000320,bc 6 3000384,au 39],[aL 2 [ai,bq,bq,ai],bb 3000320 .str 5 0,bb 3000384 .str 6 0],110⟩)]
noncomputable def np(y:OH.J):Option (aD Ot):=
(a8 y.2.2.2.1.length (0:Int)).bind fun a=>
(y.2.2.2.1[a]?).bind fun b=>
 bif(b==([108,105,110,107]:F)) then
 some (((),y.1.2.1,y.1.2.2.1,(),(),((y.2.2.2.1.length:Int)==(3:Int)),()),(y.2.1.1,y.2.1.2.1,y.2.1.2.2.1,y.2.1.2.2.2.1,()),y.2.2.1,y.2.2.2.1,())
else
 some (((),y.1.2.1,y.1.2.2.1,(),(),false,()),(y.2.1.1,y.2.1.2.1,y.2.1.2.2.1,y.2.1.2.2.2.1,()),y.2.2.1,y.2.2.2.1,())
theorem aeC:aY U (an (codeOf Tryz.f180) 1 998) (a' OH Ot np):=cW vN (by kernel_rfl) ag fun y=>by kernel_rfl
abbrev Nu:Shape:=⟨[aM 2 2 0,ao 3,au 4,bc 5 3000320,bc 6 3000384],[aL 2 [ai,bq,bq,ai],bb 3000320 .str 5 0,bb 3000384 .str 6 0],110⟩
abbrev Na:List aO:=[(.norm,⟨[aM 2 2 0,ao 3,au 4,bc 5 3000320,bc 6 3000384,au 59],[aL 2 [ai,bq,bq,ai],bb 3000320 .str 5 0,bb 3000384 .str 6 0],110⟩)]
noncomputable def ot(y:Nu.J):Option (aD Na):=
(a8 y.2.2.2.1.length (0:Int)).bind fun a=>
(y.2.2.2.1[a]?).bind fun b=>
 bif(b==([102,105,108,101]:F)) then
 some (((),y.1.2.1,y.1.2.2.1,(),(),((y.2.2.2.1.length:Int)==(4:Int)),()),(y.2.1.1,y.2.1.2.1,y.2.1.2.2.1,y.2.1.2.2.2.1,()),y.2.2.1,y.2.2.2.1,())
else
 some (((),y.1.2.1,y.1.2.2.1,(),(),false,()),(y.2.1.1,y.2.1.2.1,y.2.1.2.2.1,y.2.1.2.2.2.1,()),y.2.2.1,y.2.2.2.1,())
theorem acA:aY U (an (codeOf Tryz.f180) 1 3998) (a' Nu Na ot):=cW vN (by kernel_rfl) ag fun y=>by kernel_rfl
abbrev ML:Shape:=⟨[aM 2 2 0,ao 3,au 4,bc 5 3000320,bc 6 3000384,ae 7],[aL 2 [ai,bq,bq,ai],bb 3000320 .str 5 0,bb 3000384 .str 6 0],110⟩
abbrev ME:List aO:=[(.norm,⟨[aM 2 2 0,ao 3,au 4,bc 5 3000320,bc 6 3000384,ae 7,au 88],[aL 2 [ai,bq,bq,ai],bb 3000320 .str 5 0,bb 3000384 .str 6 0],110⟩)]
noncomputable def t'(y:ML.J):Option (aD ME):=
(a8 y.2.2.1.length (1:Int)).bind fun a=>
(y.2.2.1[a]?).bind fun b=>
(f75 ((y.1.2.2.2.2.2.1,(0:Int),(IntKind.i64.wrap ((b.length:Int)-(1:Int))),()),())).bind fun c=>
 bif(!(!c.1.1)) then
(a8 y.2.2.1.length (1:Int)).bind fun d=>
(y.2.2.1[d]?).bind fun e=>
(aU e y.1.2.2.2.2.2.1).bind fun f=>
 some (((),y.1.2.1,y.1.2.2.1,(),(),y.1.2.2.2.2.2.1,((f.toNat:Int) !=(10:Int)),()),(y.2.1.1,y.2.1.2.1,y.2.1.2.2.1,y.2.1.2.2.2.1,()),y.2.2.1,y.2.2.2.1,())
else
 some (((),y.1.2.1,y.1.2.2.1,(),(),y.1.2.2.2.2.2.1,true,()),(y.2.1.1,y.2.1.2.1,y.2.1.2.2.1,y.2.1.2.2.2.1,()),y.2.2.1,y.2.2.2.1,())
theorem aaZ:aY U (an (codeOf Tryz.f180) 1 63988) (a' ML ME t'):=cW vN (by kernel_rfl) ag fun y=>by kernel_rfl
abbrev i180:Shape:=⟨[ao 0],[],110⟩
abbrev vr:Shape:=⟨[aM 2 2 0,ao 3,au 4],[aL 2 [ai,bq,bq,ai]],110⟩
noncomputable def f180(a:i180.J):Option vr.J:=
(f73 ((a.1.1,(10:Int),(1:Int),()),())).bind fun b=>
 bif(decide ((b.2.1.length:Int)<(2:Int))) then
 some (((),([]:F),false,()),(([]:F),(0:Int),(0:Int),([]:F),()),())
else
(a8 b.2.1.length (0:Int)).bind fun c=>
(b.2.1[c]?).bind fun d=>
(f73 ((d,(32:Int),(4:Int),()),())).bind fun e=>
(ms (((),([]:F),false,(),(),()),(([]:F),(0:Int),(0:Int),([]:F),()),b.2.1,e.2.1,())).bind fun f=>
 bif f.1.2.2.2.2.2.1 then
(a8 f.2.2.2.1.length (2:Int)).bind fun g=>
(f.2.2.2.1[g]?).bind fun h=>
(a8 f.2.2.2.1.length (1:Int)).bind fun i=>
(f.2.2.2.1[i]?).bind fun j=>
(f74 ((j,()),())).bind fun k=>
(a8 f.2.2.1.length (1:Int)).bind fun l=>
(f.2.2.1[l]?).bind fun m=>
 some (((),m,true,()),(h,(1:Int),k.1.1,([]:F),()),())
else
(np (((),f.1.2.1,f.1.2.2.1,(),(),()),(f.2.1.1,f.2.1.2.1,f.2.1.2.2.1,f.2.1.2.2.2.1,()),f.2.2.1,f.2.2.2.1,())).bind fun n=>
 bif n.1.2.2.2.2.2.1 then
(a8 n.2.2.2.1.length (1:Int)).bind fun B=>
(n.2.2.2.1[B]?).bind fun p=>
(a8 n.2.2.2.1.length (2:Int)).bind fun q=>
(n.2.2.2.1[q]?).bind fun r=>
(a8 n.2.2.1.length (1:Int)).bind fun s=>
(n.2.2.1[s]?).bind fun t=>
 some (((),t,true,()),(p,(3:Int),(0:Int),r,()),())
else
(ot (((),n.1.2.1,n.1.2.2.1,(),(),()),(n.2.1.1,n.2.1.2.1,n.2.1.2.2.1,n.2.1.2.2.2.1,()),n.2.2.1,n.2.2.2.1,())).bind fun u=>
 bif u.1.2.2.2.2.2.1 then
(a8 u.2.2.2.1.length (3:Int)).bind fun v=>
(u.2.2.2.1[v]?).bind fun w=>
(f74 ((w,()),())).bind fun x=>
(t' (((),u.1.2.1,u.1.2.2.1,(),(),x.1.1,()),(u.2.1.1,u.2.1.2.1,u.2.1.2.2.1,u.2.1.2.2.2.1,()),u.2.2.1,u.2.2.2.1,())).bind fun y=>
 bif y.1.2.2.2.2.2.2.1 then
 some (((),([]:F),false,()),(([]:F),(0:Int),(0:Int),([]:F),()),())
else
(a8 y.2.2.2.1.length (2:Int)).bind fun z=>
(y.2.2.2.1[z]?).bind fun A=>
(a8 y.2.2.2.1.length (1:Int)).bind fun bh=>
(y.2.2.2.1[bh]?).bind fun C=>
(f74 ((C,()),())).bind fun aZ=>
(a8 y.2.2.1.length (1:Int)).bind fun E=>
(y.2.2.1[E]?).bind fun aX=>
(br aX (0:Int) y.1.2.2.2.2.2.1).bind fun G=>
(a8 y.2.2.1.length (1:Int)).bind fun H=>
(y.2.2.1[H]?).bind fun I=>
(br I (IntKind.i64.wrap (y.1.2.2.2.2.2.1+(1:Int))) (I.length:Int)).bind fun eV=>
 some (((),eV,true,()),(A,(2:Int),aZ.1.1,G,()),())
else
 some (((),([]:F),false,()),(([]:F),(0:Int),(0:Int),([]:F),()),())
noncomputable def Vg:aH:=aP aj Tryz.f180 i180 vr [] f180
theorem akJ:aG U 180 Vg:=aS vN Tryz.func180 (by kernel_rfl) (ba aeD (ba aeC (ba acA (ba aaZ ag)))) (fun y=>by kernel_rfl) fun a=>by kernel_rfl
def gy(s:F):Int:=bif s.all cI&&decide (s.length<=6)&&!(s==[])&&!hY s then c9 s else-1
theorem pJ(s:F)(hs:ap s.length):f74 ((s,()),())=some ((gy s,()),()):=Fi ((s,()),()) hs
theorem DL(n:Nat)(h:n<1000000):gy (Lib.itoa (n:Int))=(n:Int):=by
 have h1:=pJ (Lib.itoa (n:Int)) (by rw[pP];have:=E' 5 n (by omega);unfold ap;omega)
 rw[abh n h] at h1;simp only[Option.some.injEq,Prod.mk.injEq] at h1;exact h1.1.1.symm
def qD(aN w2 cm r:F):Option (az×F):=bif within (gy cm) 0 ((r.length:Int)-1) then(match r.drop (gy cm).toNat with|10::ez=>some (⟨w2,2,gy aN,r.take (gy cm).toNat⟩,ez)|_=>none) else none
def fT(ws:List F)(r:F):Option (az×F):=match ws with
 |[O,aN,w2]=>bif O==hI then some (⟨w2,1,gy aN,[]⟩,r) else bif O==hD then some (⟨aN,3,0,w2⟩,r) else none
 |[O,aN,w2,cm]=>bif O==hZ then qD aN w2 cm r else none
 |_=>none
def mN(s:F):Option (az×F):=match dk 10 s with
 |some (bO,r)=>fT (splitN 32 4 bO) r
 |none=>none
abbrev tP(B:Bool)(e:az)(r:F):vr.J:=(((),(r,(B,()))),((e.path,(e.kind,(e.mode,(e.text,())))),()))
theorem JI{n:Nat}(h:0<n):a8 n (0:Int)=some 0:=fq h
theorem JH{n:Nat}(h:1<n):a8 n (1:Int)=some 1:=fq h
theorem Xl{n:Nat}(h:2<n):a8 n (2:Int)=some 2:=fq h
theorem Xk{n:Nat}(h:3<n):a8 n (3:Int)=some 3:=fq h
theorem Oc(s:F)(hs:s.length<=2000000):∃(r:F) (e:az),f180 ((s,()),())=some (tP (mN s).isSome e r)/\∀q,mN s=some q->q=(e,r):=by
 have c1:=lC 10 s (by omega) 1
 have c1:f73 ((s,((10:Int),((1:Int),()))),())=_:=c1;have zero:∀{B:Option (az×F)} {x:Option vr.J},B=none->x=some (tP false ⟨[],0,0,[]⟩ [])->∃(r:F) (e:az),x=some (tP B.isSome e r)/\∀q,B=some q->q=(e,r):=by
  intro B x aE hx;subst aE;exact⟨[],⟨[],0,0,[]⟩,hx,fun q ar=>by cases ar⟩
 have one:∀{B:Option (az×F)} {x:Option vr.J} {e:az} {r:F},B=some (e,r)->x=some (tP true e r)->∃(r:F) (e:az),x=some (tP B.isSome e r)/\∀q,B=some q->q=(e,r):=by
  intro B x e r aE hx;subst aE;exact⟨r,e,hx,fun q ar=>by cases ar;rfl⟩
 cases ar:dk 10 s with
 |none=>
  have eR:splitN 10 1 s=[s]:=by unfold splitN;rw[ar]
  rw[eR] at c1;refine zero (by unfold mN;rw[ar]) ?_
  have d:decide ((([s]:List F).length:Int)<2)=true:=rfl;simp only[f180,c1,Option.bind_some,d,cond_true]
 |some q=>
  obtain⟨bO,rest⟩:=q;have hl:=(iV ar).1;have hl:s.length=bO.length+1+rest.length:=by rw[hl];simp;omega
  have eR:splitN 10 1 s=[bO,rest]:=by unfold splitN;rw[ar];rfl
  rw[eR] at c1;have c2:=lC 32 bO (by omega) 4
  have c2:f73 ((bO,((32:Int),((4:Int),()))),())=_:=c2;have hr:mN s=fT (splitN 32 4 bO) rest:=by unfold mN;rw[ar]
  have hm:=pC 32 4 bO;have hp:=MH 32 4 bO;rw[hr];generalize splitN 32 4 bO=ws at c2 hm hp;have d:decide ((([bO,rest]:List F).length:Int)<2)=false:=rfl;have i0:a8 ([bO,rest]:List F).length (0:Int)=some 0:=rfl;have i1:a8 ([bO,rest]:List F).length (1:Int)=some 1:=rfl;have e3:([bO,rest]:List F)[0]? =some bO:=rfl;have dX:([bO,rest]:List F)[1]? =some rest:=rfl;have vD:∀w:F,(w==([100,105,114]:F))=(w==hI):=fun _=>rfl
  have A5:∀w:F,(w==([108,105,110,107]:F))=(w==hD):=fun _=>rfl
  have sL:∀w:F,(w==([102,105,108,101]:F))=(w==hZ):=fun _=>rfl
  have other:∀(O:F) (more:List F),ws=O::more->((ws.length:Int)==3)=false->((ws.length:Int)==4)=false->fT ws rest=none->∃(r:F) (e:az),f180 ((s,()),())=some (tP (fT ws rest).isSome e r)/\∀q,fT ws rest=some q->q=(e,r):=by
   intro O more hw h3 aw h;refine zero h ?_
   have g':a8 ws.length (0:Int)=some 0:=JI (by omega)
   have dw:ws[0]? =some O:=by rw[hw];rfl
   simp only[f180,c1,Option.bind_some,d,cond_false,i0,e3,c2,ms,g',dw,h3];cases O==([100,105,114]:F)<;>simp only[cond_true,cond_false,Option.bind_some,np,g',dw,h3]<;>cases O==([108,105,110,107]:F)<;>simp only[cond_true,cond_false,Option.bind_some,ot,g',dw,aw]<;>cases O==([102,105,108,101]:F)<;>rfl
  match ws,other,c2,hm,hp with
  |[],other,c2,hm,hp=>exact absurd hp (by decide)
  |[O],other,c2,hm,hp=>exact other O [] rfl rfl rfl rfl
  |[O,aN],other,c2,hm,hp=>exact other O [aN] rfl rfl rfl rfl
  |O::aN::w2::cm::q7::more,other,c2,hm,hp=>exact other O _ rfl (by rw[beq_eq_false_iff_ne];simp;omega) (by rw[beq_eq_false_iff_ne];simp;omega) rfl
  |[O,aN,w2],_,c2,hm,hp=>
   have g':a8 ([O,aN,w2]:List F).length (0:Int)=some 0:=rfl;have lx:a8 ([O,aN,w2]:List F).length (1:Int)=some 1:=rfl;have pu:a8 ([O,aN,w2]:List F).length (2:Int)=some 2:=rfl;have dw:([O,aN,w2]:List F)[0]? =some O:=rfl;have eD:([O,aN,w2]:List F)[1]? =some aN:=rfl;have fh:([O,aN,w2]:List F)[2]? =some w2:=rfl;have h3:((([O,aN,w2]:List F).length:Int)==3)=true:=rfl;have aw:((([O,aN,w2]:List F).length:Int)==4)=false:=rfl;have m1:=hm aN (by simp)
   have n1:=pJ aN (by unfold ap;omega)
   cases eI:O==hI with
   |true=>
    refine one (show fT [O,aN,w2] rest=some (⟨w2,1,gy aN,[]⟩,rest) by unfold fT;simp only[eI,cond_true]) ?_
    simp only[f180,c1,Option.bind_some,d,cond_false,i0,e3,c2,ms,g',dw,h3,vD,eI,cond_true,pu,fh,lx,eD,n1,i1,dX]
   |false=>
    cases e1:O==hD with
    |true=>
     refine one (show fT [O,aN,w2] rest=some (⟨aN,3,0,w2⟩,rest) by unfold fT;simp only[eI,e1,cond_true,cond_false]) ?_
     simp only[f180,c1,Option.bind_some,d,cond_false,i0,e3,c2,ms,g',dw,h3,vD,eI,cond_true,pu,fh,lx,eD,i1,dX,np,A5,e1]
    |false=>
     refine zero (show fT [O,aN,w2] rest=none by unfold fT;simp only[eI,e1,cond_false]) ?_
     simp only[f180,c1,Option.bind_some,d,cond_false,i0,e3,c2,ms,g',dw,h3,aw,vD,eI,np,A5,e1,ot];cases O==([102,105,108,101]:F)<;>rfl
  |[O,aN,w2,cm],_,c2,hm,hp=>
   have g':a8 ([O,aN,w2,cm]:List F).length (0:Int)=some 0:=rfl;have lx:a8 ([O,aN,w2,cm]:List F).length (1:Int)=some 1:=rfl;have pu:a8 ([O,aN,w2,cm]:List F).length (2:Int)=some 2:=rfl;have K_:a8 ([O,aN,w2,cm]:List F).length (3:Int)=some 3:=rfl;have dw:([O,aN,w2,cm]:List F)[0]? =some O:=rfl;have eD:([O,aN,w2,cm]:List F)[1]? =some aN:=rfl;have fh:([O,aN,w2,cm]:List F)[2]? =some w2:=rfl;have mi:([O,aN,w2,cm]:List F)[3]? =some cm:=rfl;have h3:((([O,aN,w2,cm]:List F).length:Int)==3)=false:=rfl;have aw:((([O,aN,w2,cm]:List F).length:Int)==4)=true:=rfl;have m1:=hm aN (by simp)
   have m3:=hm cm (by simp)
   have n1:=pJ aN (by unfold ap;omega)
   have iv:=pJ cm (by unfold ap;omega)
   have b1:∀b:Bool,(bif b then some ((((),(([]:F),(false,((),((),(false,())))))),((([]:F),((0:Int),((0:Int),(([]:F),())))),([bO,rest],([O,aN,w2,cm],()))))) else some ((((),(([]:F),(false,((),((),(false,())))))),((([]:F),((0:Int),((0:Int),(([]:F),())))),([bO,rest],([O,aN,w2,cm],()))))))=some ((((),(([]:F),(false,((),((),(false,())))))),((([]:F),((0:Int),((0:Int),(([]:F),())))),([bO,rest],([O,aN,w2,cm],()))))):=fun b=>by cases b<;>rfl
   cases e2:O==hZ with
   |false=>
    refine zero (show fT [O,aN,w2,cm] rest=none by unfold fT;simp only[e2,cond_false]) ?_
    simp only[f180,c1,Option.bind_some,d,cond_false,i0,e3,c2,ms,g',dw,h3,aw,b1,np,ot,sL,e2]
   |true=>
    have hw:fT [O,aN,w2,cm] rest=qD aN w2 cm rest:=by unfold fT;simp only[e2,cond_true]
    rw[hw];have jg:IntKind.i64.wrap (((rest.length:Nat):Int)-1)=(rest.length:Int)-1:=eg (by omega) (by omega)
    have hin:=nB ((gy cm,((0:Int),((rest.length:Int)-1,()))),());have hin:f75 ((gy cm,((0:Int),((rest.length:Int)-1,()))),())=some ((within (gy cm) 0 ((rest.length:Int)-1),()),()):=hin;cases hi:within (gy cm) 0 ((rest.length:Int)-1) with
    |false=>
     rw[hi] at hin;refine zero (by unfold qD;rw[hi];rfl) ?_
     simp only[f180,c1,Option.bind_some,d,cond_false,i0,e3,c2,ms,g',dw,h3,aw,b1,np,ot,sL,e2,cond_true,K_,mi,iv,t',i1,dX,jg,hin,Bool.not_false,Bool.not_true]
    |true=>
     rw[hi] at hin;have hb:=rN hi;obtain⟨n,hn⟩:∃n:Nat,gy cm=(n:Int):=⟨(gy cm).toNat,by omega⟩
     rw[hn] at hin iv hb;have hlt:n<rest.length:=by omega
     have dK:qD aN w2 cm rest=match rest.drop n with|10::ez=>some (⟨w2,2,gy aN,rest.take n⟩,ez)|_=>none:=by
      unfold qD;rw[hi,hn];rfl
     have vh:rest.drop n=rest[n]::rest.drop (n+1):=List.drop_eq_getElem_cons hlt;have hx:aU rest ((n:Nat):Int)=some rest[n]:=by rw[bX];exact List.getElem?_eq_getElem hlt
     rw[vh] at dK;rw[dK];generalize rest[n]=b at hx;by_cases qW:b=10
     ·subst qW;have t1:((((10:UInt8).toNat:Nat):Int) !=10)=false:=rfl;have s1:br rest 0 ((n:Nat):Int)=some (rest.take n):=gI (by omega)
      have aoT:IntKind.i64.wrap (((n:Nat):Int)+1)=((n+1:Nat):Int):=bS (by unfold ap;omega)
      have s2:br rest ((n+1:Nat):Int) ((rest.length:Nat):Int)=some (rest.drop (n+1)):=gu (by omega)
      refine one rfl ?_
      simp only[f180,c1,Option.bind_some,d,cond_false,i0,e3,c2,ms,g',dw,h3,aw,b1,np,ot,sL,e2,cond_true,K_,mi,iv,t',i1,dX,jg,hin,Bool.not_false,Bool.not_true,hx,t1,pu,fh,lx,eD,n1,s1,aoT,s2]
     ·have t1:(((b.toNat:Nat):Int) !=10)=true:=by
       rw[bne_iff_ne];intro h;exact qW (UInt8.toNat_inj.1 (by have:((10:UInt8).toNat:Int)=10:=rfl;omega))
      refine zero (by split<;>first|rfl|(rename_i h;simp at h;exact absurd h.1 qW)) ?_
      simp only[f180,c1,Option.bind_some,d,cond_false,i0,e3,c2,ms,g',dw,h3,aw,b1,np,ot,sL,e2,cond_true,K_,mi,iv,t',i1,dX,jg,hin,Bool.not_false,Bool.not_true,hx,t1]
theorem PO{s r:F}{e:az}(h:mN s=some (e,r)):e.path.length<=s.length/\e.text.length<=s.length/\r.length<s.length:=by
 unfold mN at h;cases ar:dk 10 s with
 |none=>rw[ar] at h;cases h
 |some q=>
  obtain⟨bO,rest⟩:=q;rw[ar] at h;have hl:=(iV ar).1;have hl:s.length=bO.length+1+rest.length:=by rw[hl];simp;omega
  have hm:=pC 32 4 bO;have h:fT (splitN 32 4 bO) rest=some (e,r):=h;generalize splitN 32 4 bO=ws at h hm;unfold fT at h;split at h
  ·rename_i O aN w2;have m1:=hm aN (by simp)
   have m2:=hm w2 (by simp)
   cases eI:O==hI<;>simp only[eI,cond_true,cond_false] at h
   ·cases e1:O==hD<;>simp only[e1,cond_true,cond_false] at h
    ·cases h
    ·simp only[Option.some.injEq,Prod.mk.injEq] at h;obtain⟨rfl,rfl⟩:=h;exact⟨by show aN.length<=_;omega,by show w2.length<=_;omega,by omega⟩
   ·simp only[Option.some.injEq,Prod.mk.injEq] at h;obtain⟨rfl,rfl⟩:=h;exact⟨by show w2.length<=_;omega,by show 0<=_;omega,by omega⟩
  ·rename_i O aN w2 cm;have m2:=hm w2 (by simp)
   cases e2:O==hZ<;>simp only[e2,cond_true,cond_false] at h
   ·cases h
   ·unfold qD at h;cases c_:within (gy cm) 0 ((rest.length:Int)-1)<;>simp only[c_,cond_true,cond_false] at h
    ·cases h
    ·split at h
     ·rename_i ez Z;simp only[Option.some.injEq,Prod.mk.injEq] at h;obtain⟨rfl,rfl⟩:=h;have J8:=congrArg List.length Z;simp only[List.length_drop,List.length_cons] at J8;exact⟨by show w2.length<=_;omega,by show(rest.take _).length<=_;simp;omega,by omega⟩
     ·cases h
  ·cases h
theorem afS{e:az}(h:eL e=true)(r:F):mN (ea e++r)=some (e,r):=by
 have hw:=(Dq h).1;unfold mN;rw[NO h];show fT (splitN 32 4 (oQ e)) (u_ e r)=_;obtain⟨n,hn,iw⟩:=EF h;have g2:=DL n (by omega)
 have qG:splitN 32 4 (oQ e)=lL e:=LW _ 4 (by unfold lL;cases e.kind==1<;>cases e.kind==3<;>simp) hw (by unfold lL;cases e.kind==1<;>cases e.kind==3<;>simp)
 rw[qG];obtain⟨p,k,m,t⟩:=e;have hn:m=n:=hn;subst hn;rcases ub h with hk|hk|hk
 ·have hk:k=1:=hk;subst hk;have aq:t=[]:=NZ h rfl;subst aq;show fT [hI,Lib.itoa (n:Int),p] r=_;unfold fT;have e2:(hI==hI)=true:=by decide
  simp only[e2,g2,cond_true]
 ·have hk:k=2:=hk;subst hk;have hb:t.length<=80:=by
   have:=MX h rfl;unfold nC at this;simp only[Bool.and_eq_true,decide_eq_true_eq] at this;exact this.2
  have aA:=DL t.length (by omega)
  show fT [hZ,Lib.itoa (n:Int),p,Lib.itoa (t.length:Int)] (t++10::r)=_;unfold fT;have bp:(hZ==hZ)=true:=by decide
  simp only[bp,cond_true];unfold qD;have d1:(t++10::r).drop t.length=10::r:=by simp
  have d2:(t++10::r).take t.length=t:=by simp
  have hw:within (t.length:Int) 0 (((t++10::r).length:Int)-1)=true:=by
   unfold within;rw[decide_eq_true (by omega),decide_eq_true (by simp;omega)]
   rfl
  simp only[aA,hw,cond_true,Int.toNat_natCast,d1,d2,g2]
 ·have hk:k=3:=hk;subst hk;obtain⟨_,hm⟩:=Dn h rfl;have hm:(n:Int)=0:=hm;show fT [hD,p,t] r=_;unfold fT;have e1:(hD==hI)=false:=by decide
  have e2:(hD==hD)=true:=by decide
  simp only[e1,e2,cond_true,cond_false];rw[hm]
end Go.Proofs
