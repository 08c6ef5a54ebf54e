/- FnExactFarmOk: the program's FarmOk returns what the reference's returns, for all arguments. (part 5 of 7: JkKPuSa, JkKF277, JkKF257, JkKPuSb, JkKF121, JkKPuSc, JkKF256, JkKF220, JkKPuSd, JkKF122v0, JkKF219, JkKF173, JkKF69, JkKPuSe, JkKF63v0, JkKPl, JkKFH64, JkKF120, JkKF83, JkKF226, JkKF181, JkKPuPa, JkK) Conditions: none beyond the statement. -/
import Derived.Test.YthhecoidfjkmeaaGreatDoorZFnExactFarmOk3
import Derived.Tactics
import Derived.Deep.RegionLaw
import Derived.Shelf.Abstract
import Derived.Test.YthhecoidfjkmeaaGreatDoorProg
import Derived.KernelRfl
import Derived.Shelf.LaysM
import Derived.Shelf.Strconv.Itoa3
import Derived.Shelf.Strings.IndexAnyAll
import Derived.Laws.RangeAny
import Derived.Lib.OthersKept
import Derived.Shelf.Small.Utf8
import Derived.Laws.Runes
import Derived.Laws.Cover4
import Derived.WalkMore
import Derived.Shelf.RegionOpenPlain
set_option maxRecDepth 100000
set_option linter.unusedVariables false
set_option linter.unusedSimpArgs false
namespace Go.Proofs
open Go.Jk
theorem fM{J bm:Type}{g:J->Option (Sum J bm)}(st:Nat->J)(n:Nat){b:bm}(h:∀i,i<n->g (st i)=some (.inl (st (i+1))))(he:g (st n)=some (.inr b)):∀k i,i+k=n->bn g (st i)=some b:=by
 intro k;induction k with
 |zero=>
  intro i hi;obtain rfl:i=n:=by omega
  exact ca he
 |succ k ih=>
  intro i hi;rw[du (h i (by omega))]
  exact ih (i+1) (by omega)
theorem agB(k:IntKind)(x y:Int):hM k x y=hM k y x:=by unfold hM;rw[BitVec.or_comm]
def kq(x n:Int):Int:=hM .u32 (x.fdiv (2^n.toNat)) (IntKind.u32.wrap (x*2^(32-n).toNat))
def eI(n:Int):Prop:=n=2\/n=6\/n=7\/n=11\/n=13\/n=17\/n=18\/n=19\/n=22\/n=25
theorem mo(x n:Int)(h:eI n):f278 ((x,(n,())),())=some ((kq x n,()),()):=by
 rcases h with rfl|rfl|rfl|rfl|rfl|rfl|rfl|rfl|rfl|rfl<;>rfl
theorem hq(x n:Int)(h:eI n):f171 ((x,(n,())),())=some ((kq x n,()),()):=by
 have a2:ev .u64 (IntKind.u64.wrap (IntKind.i64.wrap (0-2))) 31=30:=by decide
 have xc:ev .u64 (IntKind.u64.wrap (IntKind.i64.wrap (0-6))) 31=26:=by decide
 have xb:ev .u64 (IntKind.u64.wrap (IntKind.i64.wrap (0-7))) 31=25:=by decide
 have Lb:ev .u64 (IntKind.u64.wrap (IntKind.i64.wrap (0-11))) 31=21:=by decide
 have as7:ev .u64 (IntKind.u64.wrap (IntKind.i64.wrap (0-13))) 31=19:=by decide
 have as5:ev .u64 (IntKind.u64.wrap (IntKind.i64.wrap (0-17))) 31=15:=by decide
 have as4:ev .u64 (IntKind.u64.wrap (IntKind.i64.wrap (0-18))) 31=14:=by decide
 have as3:ev .u64 (IntKind.u64.wrap (IntKind.i64.wrap (0-19))) 31=13:=by decide
 have as2:ev .u64 (IntKind.u64.wrap (IntKind.i64.wrap (0-22))) 31=10:=by decide
 have as1:ev .u64 (IntKind.u64.wrap (IntKind.i64.wrap (0-25))) 31=7:=by decide
 unfold kq;rw[agB];rcases h with rfl|rfl|rfl|rfl|rfl|rfl|rfl|rfl|rfl|rfl<;>simp only[f171,f217,a2,xc,xb,Lb,as7,as5,as4,as3,as2,as1]<;>rfl
theorem oo{x:Int}(h0:0<=x)(h1:x<4294967296):IntKind.u32.wrap x=x:=by rw[IntKind.wrap_u32];omega
theorem Eb{a:Nat}(h:a<4294967296):(BitVec.ofInt IntKind.u32.bits (a:Int)).toNat=a:=by
 rw[BitVec.ofInt_natCast,BitVec.toNat_ofNat];exact Nat.mod_eq_of_lt h
theorem zu{m y k:Nat}(hy:y<2^k)(h:m*2^k+y<4294967296):hM .u32 ((m*2^k:Nat):Int) (y:Int)=((m*2^k+y:Nat):Int):=by
 unfold hM;rw[BitVec.toNat_or,Eb (by omega),Eb (by omega),<-Nat.shiftLeft_eq,<-Nat.shiftLeft_add_eq_or_of_lt hy,Nat.shiftLeft_eq,oo (by omega) (by omega)]
abbrev j'(x:Int):Prop:=0<=x/\x<=255
def wd(a b c d:Int):Int:=a*16777216+b*65536+c*256+d
def gN(w c:Int):Int:=hM .u32 (IntKind.u32.wrap (w*256)) (IntKind.u32.wrap c)
theorem xH{w c:Nat}(hw:w<16777216)(hc:c<256):gN w c=((w*256+c:Nat):Int):=by
 unfold gN;rw[oo (x:=(w:Int)*256) (by omega) (by omega),oo (x:=(c:Int)) (by omega) (by omega)]
 exact zu (k:=8) (by omega) (by omega)
theorem oC{x:Int}(h:j' x):∃n:Nat,x=n/\n<256:=by
 obtain⟨n,rfl⟩:=Int.eq_ofNat_of_zero_le h.1;exact⟨n,rfl,by omega⟩
theorem ahp{a b c d:Int}(ha:j' a)(hb:j' b)(hc:j' c)(Z:j' d):gN (gN (gN (gN 0 a) b) c) d=wd a b c d:=by
 obtain⟨a,rfl,ra⟩:=oC ha;obtain⟨b,rfl,q'⟩:=oC hb;obtain⟨c,rfl,w4⟩:=oC hc;obtain⟨d,rfl,w3⟩:=oC Z;have eT:gN 0 (a:Int)=((0*256+a:Nat):Int):=xH (w:=0) (by omega) ra
 rw[eT,xH (by omega) q',xH (by omega) w4,xH (by omega) w3]
 unfold wd;omega
theorem aho{a b c d:Int}(ha:j' a)(hb:j' b)(hc:j' c)(Z:j' d):
  hM .u32 (hM .u32 (hM .u32 (IntKind.u32.wrap (IntKind.u32.wrap a*16777216)) (IntKind.u32.wrap (IntKind.u32.wrap b*65536))) (IntKind.u32.wrap (IntKind.u32.wrap c*256))) (IntKind.u32.wrap d)=wd a b c d:=by
 obtain⟨a,rfl,ra⟩:=oC ha;obtain⟨b,rfl,q'⟩:=oC hb;obtain⟨c,rfl,w4⟩:=oC hc;obtain⟨d,rfl,w3⟩:=oC Z;have w:∀{x:Nat},x<256->IntKind.u32.wrap (x:Int)=x:=fun h=>oo (by omega) (by omega)
 rw[w ra,w q',w w4,w w3,oo (x:=(a:Int)*16777216) (by omega) (by omega),oo (x:=(b:Int)*65536) (by omega) (by omega),oo (x:=(c:Int)*256) (by omega) (by omega)]
 have e1:hM .u32 ((a:Int)*16777216) ((b:Int)*65536)=(((a*256+b)*2^16:Nat):Int):=by
  have:=zu (m:=a) (y:=b*65536) (k:=24) (by omega) (by omega)
  rw[show((a:Int)*16777216)=((a*2^24:Nat):Int) by omega,show((b:Int)*65536)=((b*65536:Nat):Int) by omega,this];omega
 have e2:hM .u32 (((a*256+b)*2^16:Nat):Int) ((c:Int)*256)=((((a*256+b)*256+c)*2^8:Nat):Int):=by
  have:=zu (m:=a*256+b) (y:=c*256) (k:=16) (by omega) (by omega)
  rw[show((c:Int)*256)=((c*256:Nat):Int) by omega,this];omega
 have bz:=zu (m:=(a*256+b)*256+c) (y:=d) (k:=8) (by omega) (by omega)
 rw[e1,e2,bz];unfold wd;omega
def gb(b:List Int)(i:Nat):Int:=b.getD i 0
def Ka(x:Int):Int:=dl .u32 (dl .u32 (kq x 7) (kq x 18)) (x.fdiv 8)
def J'(x:Int):Int:=dl .u32 (dl .u32 (kq x 17) (kq x 19)) (x.fdiv 1024)
def vE(w:List Int)(i:Nat):Int:=IntKind.u32.wrap (IntKind.u32.wrap (IntKind.u32.wrap (gb w (i-16)+Ka (gb w (i-15)))+gb w (i-7))+J' (gb w (i-2)))
def cm(b:List Int):Nat->List Int
 |0=>[]
 |i+1=>cm b i++[bif decide (i<16) then wd (gb b (4*i)) (gb b (4*i+1)) (gb b (4*i+2)) (gb b (4*i+3)) else vE (cm b i) i]
theorem nq(b:List Int):∀i,(cm b i).length=i
 |0=>rfl
 |i+1=>by simp[cm,nq b i]
theorem lO{b:List Int}{j:Nat}(h:j<b.length):b[j]? =some (gb b j):=by
 unfold gb;rw[List.getD_eq_getElem?_getD,List.getElem?_eq_getElem h];rfl
theorem vn{b:List Int}{j:Nat}(h:j<b.length):aP b (j:Int)=some (gb b j):=by rw[bQ];exact lO h
theorem TL(x:Int):e9 .u32 x 3=some (x.fdiv 8):=rfl
theorem SR(x:Int):e9 .u32 x 10=some (x.fdiv 1024):=rfl
theorem alb(x:Int):lh .u32 x 24=some (IntKind.u32.wrap (x*16777216)):=rfl
theorem alc(x:Int):lh .u32 x 16=some (IntKind.u32.wrap (x*65536)):=rfl
theorem vA(x:Int):lh .u32 x 8=some (IntKind.u32.wrap (x*256)):=rfl
abbrev q3(b:List Int):Prop:=b.length=64/\∀x,x∈b->j' x
theorem q3.pg{b:List Int}(h:q3 b){j:Nat}(hj:j<64):j' (gb b j):=by
 refine h.2 _ ?_
 have:=lO (b:=b) (j:=j) (by rw[h.1];exact hj)
 exact List.mem_of_getElem? this
theorem q5{i:Nat}(h:i<=64)(j:Nat)(hj:j<=4):IntKind.i64.wrap (IntKind.i64.wrap ((4:Int)*(i:Int))+(j:Int))=((4*i+j:Nat):Int):=by
 rw[ee (n:=4*(i:Int)) (by omega) (by omega),ee (by omega) (by omega)];omega
theorem tg{i:Nat}(h:i<=64):IntKind.i64.wrap ((4:Int)*(i:Int))=((4*i:Nat):Int):=by
 rw[ee (n:=4*(i:Int)) (by omega) (by omega)];omega
theorem pj{i:Nat}{q:Int}(k:Nat)(e:q=(k:Int))(h:i<=64)(hk:k<=i):IntKind.i64.wrap ((i:Int)-q)=((i-k:Nat):Int):=by
 subst e;rw[ee (by omega) (by omega)];omega
theorem wp{i:Nat}(h:i<=64):IntKind.i64.wrap ((i:Int)+1)=((i+1:Nat):Int):=bK (by unfold am;omega)
theorem adC(b:List Int)(h:q3 b):f276 ((b,()),())=some (((),()),(cm b 64,())):=by
 have aB:Gu ((b,((),((0:Int),()))),(([]:List Int),()))=some (((),()),(cm b 16,())):=by
  refine fM (g:=G4) (fun i=>((b,((),((i:Int),()))),(cm b i,()))) 16 (fun i hi=>?_) rfl 16 0 rfl
  have hl:decide ((i:Int)<16)=true:=by simp;omega
  have h0:=vn (b:=b) (j:=4*i) (by rw[h.1];omega)
  have h1:=vn (b:=b) (j:=4*i+1) (by rw[h.1];omega)
  have h2:=vn (b:=b) (j:=4*i+2) (by rw[h.1];omega)
  have h3:=vn (b:=b) (j:=4*i+3) (by rw[h.1];omega)
  have q1:IntKind.i64.wrap (((4*i:Nat):Int)+1)=((4*i+1:Nat):Int):=by have:=q5 (i:=i) (by omega) 1 (by omega);rwa[tg (by omega)] at this
  have q2:IntKind.i64.wrap (((4*i:Nat):Int)+2)=((4*i+2:Nat):Int):=by have:=q5 (i:=i) (by omega) 2 (by omega);rwa[tg (by omega)] at this
  have cV:IntKind.i64.wrap (((4*i:Nat):Int)+3)=((4*i+3:Nat):Int):=by have:=q5 (i:=i) (by omega) 3 (by omega);rwa[tg (by omega)] at this
  have hw:=aho (h.pg (j:=4*i) (by omega)) (h.pg (j:=4*i+1) (by omega)) (h.pg (j:=4*i+2) (by omega)) (h.pg (j:=4*i+3) (by omega))
  have Z:decide (i<16)=true:=by simpa using hi
  simp only[G4,hl,cond_true,tg (i:=i) (by omega),q1,q2,cV,h0,h1,h2,h3,Option.bind_some,alb,alc,vA,hw,wp (i:=i) (by omega)]
  rw[dS (by decide) (by rw[nq];unfold am;simp;omega)]
  simp only[Option.bind_some,cm,Z,cond_true]
 have aA:Fa (((),((16:Int),())),(cm b 16,()))=some (((),()),(cm b 64,())):=by
  refine fM (g:=Fv) (fun i=>(((),(((16+i:Nat):Int),())),(cm b (16+i),()))) 48 (fun i hi=>?_) rfl 48 0 rfl
  have hl:decide (((16+i:Nat):Int)<64)=true:=by simp;omega
  have hlen:=nq b (16+i);have Z:decide (16+i<16)=false:=by simp
  have t7:=fun x=>mo x 7 (by simp[eI]);have t18:=fun x=>mo x 18 (by simp[eI])
  have t17:=fun x=>mo x 17 (by simp[eI]);have t19:=fun x=>mo x 19 (by simp[eI])
  have i15:a_ (cm b (16+i)).length (IntKind.i64.wrap (((16+i:Nat):Int)-15))=some (16+i-15):=by rw[pj (i:=16+i) (q:=15) 15 rfl (by omega) (by omega)];exact fm (by rw[hlen];omega)
  have i2:a_ (cm b (16+i)).length (IntKind.i64.wrap (((16+i:Nat):Int)-2))=some (16+i-2):=by rw[pj (i:=16+i) (q:=2) 2 rfl (by omega) (by omega)];exact fm (by rw[hlen];omega)
  have i16:a_ (cm b (16+i)).length (IntKind.i64.wrap (((16+i:Nat):Int)-16))=some (16+i-16):=by rw[pj (i:=16+i) (q:=16) 16 rfl (by omega) (by omega)];exact fm (by rw[hlen];omega)
  have i7:a_ (cm b (16+i)).length (IntKind.i64.wrap (((16+i:Nat):Int)-7))=some (16+i-7):=by rw[pj (i:=16+i) (q:=7) 7 rfl (by omega) (by omega)];exact fm (by rw[hlen];omega)
  have g15:=lO (b:=cm b (16+i)) (j:=16+i-15) (by rw[hlen];omega)
  have g2:=lO (b:=cm b (16+i)) (j:=16+i-2) (by rw[hlen];omega)
  have g16:=lO (b:=cm b (16+i)) (j:=16+i-16) (by rw[hlen];omega)
  have g7:=lO (b:=cm b (16+i)) (j:=16+i-7) (by rw[hlen];omega)
  simp only[Fv,hl,cond_true,i15,i2,i16,i7,g15,g2,g16,g7,Option.bind_some,t7,t18,t17,t19,TL,SR,wp (i:=16+i) (by omega)]
  rw[dS (by decide) (by rw[hlen];unfold am;simp;omega)]
  have hs:cm b (16+(i+1))=cm b (16+i)++[vE (cm b (16+i)) (16+i)]:=by
   show cm b ((16+i)+1)=_;simp only[cm,Z,cond_false]
  simp only[Option.bind_some,hs,vE,Ka,J'];rfl
 have hm:jj 4 (0:Int) (64:Int) (0:Int)=some ([]:List Int):=rfl;simp only[f276,hm,Option.bind_some,aB,aA]
abbrev i277:Shape:=⟨[],[],2⟩
abbrev TX:Shape:=⟨[bf 0 3000000],[be 3000000 .u32 0 0],2⟩
noncomputable def f277(a:i277.J):Option TX.J:=
 some (((),()),([(1116352408:Int),(1899447441:Int),(3049323471:Int),(3921009573:Int),(961987163:Int),(1508970993:Int),(2453635748:Int),(2870763221:Int),(3624381080:Int),(310598401:Int),(607225278:Int),(1426881987:Int),(1925078388:Int),(2162078206:Int),(2614888103:Int),(3248222580:Int),(3835390401:Int),(4022224774:Int),(264347078:Int),(604807628:Int),(770255983:Int),(1249150122:Int),(1555081692:Int),(1996064986:Int),(2554220882:Int),(2821834349:Int),(2952996808:Int),(3210313671:Int),(3336571891:Int),(3584528711:Int),(113926993:Int),(338241895:Int),(666307205:Int),(773529912:Int),(1294757372:Int),(1396182291:Int),(1695183700:Int),(1986661051:Int),(2177026350:Int),(2456956037:Int),(2730485921:Int),(2820302411:Int),(3259730800:Int),(3345764771:Int),(3516065817:Int),(3600352804:Int),(4094571909:Int),(275423344:Int),(430227734:Int),(506948616:Int),(659060556:Int),(883997877:Int),(958139571:Int),(1322822218:Int),(1537002063:Int),(1747873779:Int),(1955562222:Int),(2024104815:Int),(2227730452:Int),(2361852424:Int),(2428436474:Int),(2756734187:Int),(3204031479:Int),(3329325298:Int)]:List Int),())
noncomputable def V0:aF:=aK ah Tryz.f277 i277 TX [] f277
theorem amc:aE U 277 V0:=aL g0 Tryz.func277 (by kernel_rfl) af (fun y=>by kernel_rfl) fun a=>by kernel_rfl
noncomputable abbrev aor:bg:=[(276,V1),(277,V0),(278,Jq)]
theorem Cb:aW U (bd ah aor):=bc ⟨amd,amc,Tu,⟨⟩⟩
abbrev xi:Shape:=⟨[aH 0 .u32,bf 5 3000320,bf 6 3000384,bf 7 3000448,ad 8,(11,.ak (.d (.int .u32))),(12,.ak (.d (.int .u32))),(13,.ak (.d (.int .u32))),ad 14],[be 3000320 .u32 5 0,be 3000384 .u32 6 0,be 3000448 .u32 7 0],155⟩
abbrev Ds:List aN:=[(.exit 2,⟨[aH 0 .u32,bf 5 3000320,bf 6 3000384,bf 7 3000448,ad 8,(11,.ak (.d (.int .u32))),(12,.ak (.d (.int .u32))),(13,.ak (.d (.int .u32)))],[be 3000320 .u32 5 0,be 3000384 .u32 6 0,be 3000448 .u32 7 0],155⟩)]
noncomputable def MP(y:xi.J):bJ xi Ds:=
 bif(decide (y.1.2.2.2.2.2.2.2.2.1>(0:Int))) then
(a_ y.2.2.2.1.length (IntKind.i64.wrap (y.1.2.2.2.2.2.2.2.2.1-(1:Int)))).bind fun a=>
(y.2.2.2.1[a]?).bind fun b=>
(a_ y.2.2.2.1.length y.1.2.2.2.2.2.2.2.2.1).bind fun c=>
((y.2.2.2.1[c]?).bind fun q=>some b).bind fun d=>
 some (.inl ((y.1.1,(),(),(),y.1.2.2.2.2.1,y.1.2.2.2.2.2.1,y.1.2.2.2.2.2.2.1,y.1.2.2.2.2.2.2.2.1,(IntKind.i64.wrap (y.1.2.2.2.2.2.2.2.2.1-(1:Int))),()),y.2.1,y.2.2.1,(y.2.2.2.1.set c d),()))
else
 some (.inr ((y.1.1,(),(),(),y.1.2.2.2.2.1,y.1.2.2.2.2.2.1,y.1.2.2.2.2.2.2.1,y.1.2.2.2.2.2.2.2.1,()),y.2.1,y.2.2.1,y.2.2.2.1,()))
noncomputable def Du:xi.J->Option (aw Ds):=bn MP
theorem aa1:aT U (an (c8 (an (codeOf Tryz.f257) 1 250)) 500 1025274) (a6 xi Ds Du):=bN Cb (by kernel_rfl) af fun y=>by kernel_rfl
abbrev yg:Shape:=⟨[aH 0 .u32,bf 5 3000320,bf 6 3000384,bf 7 3000448,ad 8],[be 3000320 .u32 5 0,be 3000384 .u32 6 0,be 3000448 .u32 7 0],155⟩
abbrev EL:List aN:=[(.exit 0,⟨[aH 0 .u32,bf 7 3000448],[be 3000448 .u32 7 0],155⟩)]
noncomputable def Fw(y:yg.J):bJ yg EL:=
 bif(decide (y.1.2.2.2.2.1<(64:Int))) then
(a_ y.2.2.2.1.length (4:Int)).bind fun a=>
(y.2.2.2.1[a]?).bind fun b=>
(f278 ((b,(6:Int),()),())).bind fun c=>
(a_ y.2.2.2.1.length (4:Int)).bind fun d=>
(y.2.2.2.1[d]?).bind fun e=>
(f278 ((e,(11:Int),()),())).bind fun f=>
(a_ y.2.2.2.1.length (4:Int)).bind fun g=>
(y.2.2.2.1[g]?).bind fun h=>
(f278 ((h,(25:Int),()),())).bind fun i=>
(a_ y.2.2.2.1.length (4:Int)).bind fun j=>
(y.2.2.2.1[j]?).bind fun k=>
(a_ y.2.2.2.1.length (5:Int)).bind fun l=>
(y.2.2.2.1[l]?).bind fun m=>
(a_ y.2.2.2.1.length (4:Int)).bind fun n=>
(y.2.2.2.1[n]?).bind fun B=>
(a_ y.2.2.2.1.length (6:Int)).bind fun p=>
(y.2.2.2.1[p]?).bind fun r=>
(a_ y.2.2.2.1.length (7:Int)).bind fun s=>
(y.2.2.2.1[s]?).bind fun t=>
(a_ y.2.2.1.length y.1.2.2.2.2.1).bind fun u=>
(y.2.2.1[u]?).bind fun v=>
(a_ y.2.1.length y.1.2.2.2.2.1).bind fun w=>
(y.2.1[w]?).bind fun x=>
(a_ y.2.2.2.1.length (0:Int)).bind fun z=>
(y.2.2.2.1[z]?).bind fun A=>
(f278 ((A,(2:Int),()),())).bind fun bm=>
(a_ y.2.2.2.1.length (0:Int)).bind fun C=>
(y.2.2.2.1[C]?).bind fun a'=>
(f278 ((a',(13:Int),()),())).bind fun E=>
(a_ y.2.2.2.1.length (0:Int)).bind fun aZ=>
(y.2.2.2.1[aZ]?).bind fun G=>
(f278 ((G,(22:Int),()),())).bind fun H=>
(a_ y.2.2.2.1.length (0:Int)).bind fun I=>
(y.2.2.2.1[I]?).bind fun eV=>
(a_ y.2.2.2.1.length (1:Int)).bind fun K=>
(y.2.2.2.1[K]?).bind fun L=>
(a_ y.2.2.2.1.length (0:Int)).bind fun e7=>
(y.2.2.2.1[e7]?).bind fun N=>
(a_ y.2.2.2.1.length (2:Int)).bind fun avD=>
(y.2.2.2.1[avD]?).bind fun P=>
(a_ y.2.2.2.1.length (1:Int)).bind fun Q=>
(y.2.2.2.1[Q]?).bind fun R=>
(a_ y.2.2.2.1.length (2:Int)).bind fun S=>
(y.2.2.2.1[S]?).bind fun T=>
(Du ((y.1.1,(),(),(),y.1.2.2.2.2.1,(IntKind.u32.wrap ((IntKind.u32.wrap ((IntKind.u32.wrap ((IntKind.u32.wrap (t+(dl .u32 (dl .u32 c.1.1 f.1.1) i.1.1)))+(dl .u32 (ev .u32 k m) (ev .u32 (dl .u32 4294967295 B) r))))+v))+x)),(dl .u32 (dl .u32 bm.1.1 E.1.1) H.1.1),(dl .u32 (dl .u32 (ev .u32 eV L) (ev .u32 N P)) (ev .u32 R T)),(7:Int),()),y.2.1,y.2.2.1,y.2.2.2.1,())).bind fun dM=>
(a_ dM.2.2.2.1.length (4:Int)).bind fun V=>
(dM.2.2.2.1[V]?).bind fun W=>
(a_ dM.2.2.2.1.length (4:Int)).bind fun X=>
((dM.2.2.2.1[X]?).bind fun q=>some (IntKind.u32.wrap (W+dM.1.2.2.2.2.2.1))).bind fun Mx=>
(a_ (dM.2.2.2.1.set X Mx).length (0:Int)).bind fun a0=>
(((dM.2.2.2.1.set X Mx)[a0]?).bind fun q=>some (IntKind.u32.wrap ((IntKind.u32.wrap (dM.1.2.2.2.2.2.1+dM.1.2.2.2.2.2.2.1))+dM.1.2.2.2.2.2.2.2.1))).bind fun a1=>
 some (.inl ((dM.1.1,(),(),(),(IntKind.i64.wrap (dM.1.2.2.2.2.1+(1:Int))),()),dM.2.1,dM.2.2.1,((dM.2.2.2.1.set X Mx).set a0 a1),()))
else
 some (.inr ((y.1.1,(),()),y.2.2.2.1,()))
noncomputable def Fb:yg.J->Option (aw EL):=bn Fw
theorem agd:aT U (an (codeOf Tryz.f257) 1 250) (a6 yg EL Fb):=bN Cb (by kernel_rfl) (bb aa1 af) fun y=>by kernel_rfl
abbrev xL:Shape:=⟨[aH 0 .u32,bf 7 3000448,bf 15 3000960,ad 16],[be 3000448 .u32 7 0,be 3000960 .u32 15 0],155⟩
abbrev DX:List aN:=[(.exit 4,⟨[bf 15 3000960],[be 3000960 .u32 15 0],155⟩)]
noncomputable def OQ(y:xL.J):bJ xL DX:=
 bif(decide (y.1.2.2.2.1<(8:Int))) then
(aP y.1.1 y.1.2.2.2.1).bind fun a=>
(a_ y.2.1.length y.1.2.2.2.1).bind fun b=>
(y.2.1[b]?).bind fun c=>
(cy 4 y.2.2.1 ([(IntKind.u32.wrap (a+c))]:List Int)).bind fun d=>
 some (.inl ((y.1.1,(),(),(IntKind.i64.wrap (y.1.2.2.2.1+(1:Int))),()),y.2.1,d,()))
else
 some (.inr (((),()),y.2.2.1,()))
noncomputable def Eh:xL.J->Option (aw DX):=bn OQ
theorem aeh:aT U (an (codeOf Tryz.f257) 1 1018) (a6 xL DX Eh):=bN Cb (by kernel_rfl) af fun y=>by kernel_rfl
abbrev i257:Shape:=⟨[aH 0 .u32,aH 1 .u8],[],155⟩
abbrev T2:Shape:=⟨[bf 4 3000256],[be 3000256 .u32 4 0],155⟩
noncomputable def f257(a:i257.J):Option T2.J:=
(f276 ((a.1.2.1,()),())).bind fun b=>
(f277 ((),())).bind fun c=>
(cy 4 ([]:List Int) a.1.1).bind fun d=>
(Fb ((a.1.1,(),(),(),(0:Int),()),b.2.1,c.2.1,d,())).bind fun e=>
(Eh ((e.1.1,(),(),(0:Int),()),e.2.1,([]:List Int),())).bind fun f=>
 some (((),()),f.2.1,())
noncomputable def V5:aF:=aK ah Tryz.f257 i257 T2 [] f257
theorem amh:aE U 257 V5:=aL Cb Tryz.func257 (by kernel_rfl) (bb agd (bb aeh af)) (fun y=>by kernel_rfl) fun a=>by kernel_rfl
structure ci where
 (a b c d e f g h:Int)
def ci.list(s:ci):List Int:=[s.a,s.b,s.c,s.d,s.e,s.f,s.g,s.h]
def K'(e:Int):Int:=dl .u32 (dl .u32 (kq e 6) (kq e 11)) (kq e 25)
def La(a:Int):Int:=dl .u32 (dl .u32 (kq a 2) (kq a 13)) (kq a 22)
def K_(e f g:Int):Int:=dl .u32 (ev .u32 e f) (ev .u32 (dl .u32 4294967295 e) g)
def Kf(a b c:Int):Int:=dl .u32 (dl .u32 (ev .u32 a b) (ev .u32 a c)) (ev .u32 b c)
def Cn(s:ci)(k w:Int):Int:=IntKind.u32.wrap (IntKind.u32.wrap (IntKind.u32.wrap (IntKind.u32.wrap (s.h+K' s.e)+K_ s.e s.f s.g)+k)+w)
def vB(k w:Int)(s:ci):ci:=⟨IntKind.u32.wrap (Cn s k w+IntKind.u32.wrap (La s.a+Kf s.a s.b s.c)),s.a,s.b,s.c,IntKind.u32.wrap (s.d+Cn s k w),s.e,s.f,s.g⟩
def l5(h:ci)(w:List Int):Nat->ci
 |0=>h
 |i+1=>vB (gb iq i) (gb w i) (l5 h w i)
def B5(h s:ci):ci:=⟨IntKind.u32.wrap (h.a+s.a),IntKind.u32.wrap (h.b+s.b),IntKind.u32.wrap (h.c+s.c),IntKind.u32.wrap (h.d+s.d),IntKind.u32.wrap (h.e+s.e),IntKind.u32.wrap (h.f+s.f),IntKind.u32.wrap (h.g+s.g),IntKind.u32.wrap (h.h+s.h)⟩
def vR(h:ci)(b:List Int):ci:=B5 h (l5 h (cm b 64) 64)
theorem ahn(x y z:Int):IntKind.u32.wrap (IntKind.u32.wrap (x+y)+z)=IntKind.u32.wrap (x+IntKind.u32.wrap (y+z)):=by
 simp only[IntKind.wrap_u32];omega
theorem ci.i0(s:ci):a_ s.list.length 0=some 0:=rfl
theorem ci.i1(s:ci):a_ s.list.length 1=some 1:=rfl
theorem ci.i2(s:ci):a_ s.list.length 2=some 2:=rfl
theorem ci.i4(s:ci):a_ s.list.length 4=some 4:=rfl
theorem ci.i5(s:ci):a_ s.list.length 5=some 5:=rfl
theorem ci.i6(s:ci):a_ s.list.length 6=some 6:=rfl
theorem ci.i7(s:ci):a_ s.list.length 7=some 7:=rfl
theorem ci.g0(s:ci):s.list[0]? =some s.a:=rfl
theorem ci.g1(s:ci):s.list[1]? =some s.b:=rfl
theorem ci.g2(s:ci):s.list[2]? =some s.c:=rfl
theorem ci.g4(s:ci):s.list[4]? =some s.e:=rfl
theorem ci.g5(s:ci):s.list[5]? =some s.f:=rfl
theorem ci.g6(s:ci):s.list[6]? =some s.g:=rfl
theorem ci.g7(s:ci):s.list[7]? =some s.h:=rfl
def gf(s:ci):Nat->List Int
 |0=>s.list
 |1=>[s.a,s.b,s.c,s.d,s.e,s.f,s.g,s.g]
 |2=>[s.a,s.b,s.c,s.d,s.e,s.f,s.f,s.g]
 |3=>[s.a,s.b,s.c,s.d,s.e,s.e,s.f,s.g]
 |4=>[s.a,s.b,s.c,s.d,s.d,s.e,s.f,s.g]
 |5=>[s.a,s.b,s.c,s.c,s.d,s.e,s.f,s.g]
 |6=>[s.a,s.b,s.b,s.c,s.d,s.e,s.f,s.g]
 |_=>[s.a,s.a,s.b,s.c,s.d,s.e,s.f,s.g]
theorem Gi:iq.length=64:=by decide
theorem adE(h:ci)(b:List Int)(hb:q3 b):f257 ((h.list,(b,())),())=some (((),()),((vR h b).list,())):=by
 have lz:=adC b hb;have t2:=fun x=>mo x 2 (by simp[eI]);have t6:=fun x=>mo x 6 (by simp[eI]);have t11:=fun x=>mo x 11 (by simp[eI])
 have t13:=fun x=>mo x 13 (by simp[eI]);have t22:=fun x=>mo x 22 (by simp[eI]);have t25:=fun x=>mo x 25 (by simp[eI])
 have fV:∀(q:List Int) (i iw ic p3:Int) (w:List Int) (s:ci),Du ((q,((),((),((),(i,(iw,(ic,(p3,((7:Int),()))))))))),(w,(iq,(s.list,()))))=
   some ((q,((),((),((),(i,(iw,(ic,(p3,())))))))),(w,(iq,(([s.a,s.a,s.b,s.c,s.d,s.e,s.f,s.g]:List Int),())))):=by
  intro q i iw ic p3 w s;refine fM (g:=MP) (fun j=>((q,((),((),((),(i,(iw,(ic,(p3,(((7-j:Nat):Int),()))))))))),(w,(iq,(gf s j,()))))) 7 (fun j hj=>?_) rfl 7 0 rfl
  have:j=0\/j=1\/j=2\/j=3\/j=4\/j=5\/j=6:=by omega
  rcases this with rfl|rfl|rfl|rfl|rfl|rfl|rfl<;>rfl
 have bR:f277 ((),())=some (((),()),(iq,())):=rfl;have hc:cy 4 ([]:List Int) h.list=some h.list:=rfl;have aB:Fb ((h.list,((),((),((),((0:Int),()))))),(cm b 64,(iq,(h.list,()))))=some ((h.list,((),())),((l5 h (cm b 64) 64).list,())):=by
  refine fM (g:=Fw) (fun i=>((h.list,((),((),((),((i:Int),()))))),(cm b 64,(iq,((l5 h (cm b 64) i).list,()))))) 64 (fun i hi=>?_) rfl 64 0 rfl
  have hl:decide ((i:Int)<64)=true:=by simp;omega
  have i1:a_ iq.length (i:Int)=some i:=fm (by rw[Gi];exact hi)
  have g1:=lO (b:=iq) (j:=i) (by rw[Gi];exact hi)
  have i2:a_ (cm b 64).length (i:Int)=some i:=fm (by rw[nq];exact hi)
  have g2:=lO (b:=cm b 64) (j:=i) (by rw[nq];exact hi)
  have hr:l5 h (cm b 64) (i+1)=vB (gb iq i) (gb (cm b 64) i) (l5 h (cm b 64) i):=rfl;generalize l5 h (cm b 64) i=s at hr ⊢;simp only[Fw,hl,cond_true,ci.i0,ci.i1,ci.i2,ci.i4,ci.i5,ci.i6,ci.i7,ci.g0,ci.g1,ci.g2,ci.g4,ci.g5,ci.g6,ci.g7,i1,g1,i2,g2,Option.bind_some,t2,t6,t11,t13,t22,t25,fV,wp (i:=i) (by omega),hr]
  have e:∀x y:Int,a_ ([s.a,s.a,s.b,s.c,s.d,s.e,s.f,s.g]:List Int).length 4=some 4/\([s.a,s.a,s.b,s.c,s.d,s.e,s.f,s.g]:List Int)[4]? =some s.d/\
   a_ (([s.a,s.a,s.b,s.c,s.d,s.e,s.f,s.g]:List Int).set 4 x).length 0=some 0/\(([s.a,s.a,s.b,s.c,s.d,s.e,s.f,s.g]:List Int).set 4 x)[0]? =some s.a:=fun x y=>⟨rfl,rfl,rfl,rfl⟩
  simp only[(e 0 0).1,(e 0 0).2.1,(e _ 0).2.2.1,(e _ 0).2.2.2,Option.bind_some,vB,Cn,K',La,K_,Kf,ahn];rfl
 have aA:Eh ((h.list,((),((),((0:Int),())))),((l5 h (cm b 64) 64).list,(([]:List Int),())))=some (((),()),((vR h b).list,())):=by
  unfold vR;generalize l5 h (cm b 64) 64=s;refine fM (g:=OQ) (fun i=>((h.list,((),((),((i:Int),())))),(s.list,((B5 h s).list.take i,())))) 8 (fun i hi=>?_) rfl 8 0 rfl
  have:i=0\/i=1\/i=2\/i=3\/i=4\/i=5\/i=6\/i=7:=by omega
  rcases this with rfl|rfl|rfl|rfl|rfl|rfl|rfl|rfl<;>rfl
 simp only[f257,lz,bR,hc,Option.bind_some,aB,aA]
noncomputable abbrev apm:bg:=[(171,WD)]
theorem tb:aW U (bd ah apm):=bc ⟨z171,⟨⟩⟩
abbrev xv:Shape:=⟨[aH 1 .u8,ew 2 2 .u32,ew 4 4 .u32,ew 5 5 .u32,ad 6,ad 27,aH 36 .u8,ad 37,ad 38],[(2,.row .u32,.same),(4,.row .u32,.same),(5,.row .u32,.same)],208⟩
abbrev DH:List aN:=[(.exit 2,⟨[aH 1 .u8,ew 2 2 .u32,ew 4 4 .u32,ew 5 5 .u32,ad 27],[(2,.row .u32,.same),(4,.row .u32,.same),(5,.row .u32,.same)],208⟩)]
noncomputable def px(y:xv.J):bJ xv DH:=
 bif(decide (y.1.2.2.2.2.2.2.2.2.1<y.1.2.2.2.2.2.2.2.1)) then
(aP y.1.2.2.2.2.2.2.1 y.1.2.2.2.2.2.2.2.2.1).bind fun a=>
((long 64 y.2.2.2.1).bind fun q=>a_ q.length y.1.2.2.2.2.1).bind fun b=>
(y.2.2.2.1[b]?).bind fun c=>
(lh .u32 c (8:Int)).bind fun d=>
((long 64 y.2.2.2.1).bind fun q=>a_ q.length y.1.2.2.2.2.1).bind fun e=>
((y.2.2.2.1[e]?).bind fun q=>some (hM .u32 d (IntKind.u32.wrap a))).bind fun f=>
 some (.inl ((y.1.1,(),(),(),y.1.2.2.2.2.1,y.1.2.2.2.2.2.1,y.1.2.2.2.2.2.2.1,y.1.2.2.2.2.2.2.2.1,(IntKind.i64.wrap (y.1.2.2.2.2.2.2.2.2.1+(1:Int))),()),y.2.1,y.2.2.1,(y.2.2.2.1.set e f),()))
else
 some (.inr ((y.1.1,(),(),(),y.1.2.2.2.2.2.1,()),y.2.1,y.2.2.1,y.2.2.2.1,()))
noncomputable def DK:xv.J->Option (aw DH):=bn px
theorem acJ:aT U (an (c8 (an (codeOf Tryz.f121) 1 58)) 116 14950) (a6 xv DH DK):=bN tb (by kernel_rfl) af fun y=>by kernel_rfl
abbrev zm:Shape:=⟨[aH 1 .u8,ew 2 2 .u32,ew 4 4 .u32,ew 5 5 .u32,ad 27],[(2,.row .u32,.same),(4,.row .u32,.same),(5,.row .u32,.same)],208⟩
abbrev Gc:List aN:=[(.exit 0,⟨[ew 2 2 .u32,ew 4 4 .u32,ew 5 5 .u32],[(2,.row .u32,.same),(4,.row .u32,.same),(5,.row .u32,.same)],208⟩)]
noncomputable def Hb(y:zm.J):bJ zm Gc:=
 bif(decide (y.1.2.2.2.2.1<(16:Int))) then
(bw y.1.1 (IntKind.i64.wrap ((4:Int)*y.1.2.2.2.2.1)) (IntKind.i64.wrap ((IntKind.i64.wrap ((4:Int)*y.1.2.2.2.2.1))+(4:Int)))).bind fun a=>
(DK ((y.1.1,(),(),(),y.1.2.2.2.2.1,y.1.2.2.2.2.1,a,(a.length:Int),(0:Int),()),y.2.1,y.2.2.1,y.2.2.2.1,())).bind fun b=>
 some (.inl ((b.1.1,(),(),(),(IntKind.i64.wrap (b.1.2.2.2.2.1+(1:Int))),()),b.2.1,b.2.2.1,b.2.2.2.1,()))
else
 some (.inr (((),(),(),()),y.2.1,y.2.2.1,y.2.2.2.1,()))
noncomputable def GP:zm.J->Option (aw Gc):=bn Hb
theorem ais:aT U (an (codeOf Tryz.f121) 1 58) (a6 zm Gc GP):=bN tb (by kernel_rfl) (bb acJ af) fun y=>by kernel_rfl
abbrev yq:Shape:=⟨[ew 2 2 .u32,ew 4 4 .u32,ew 5 5 .u32,ad 9],[(2,.row .u32,.same),(4,.row .u32,.same),(5,.row .u32,.same)],208⟩
abbrev ET:List aN:=[(.exit 4,⟨[ew 2 2 .u32,ew 4 4 .u32,ew 5 5 .u32],[(2,.row .u32,.same),(4,.row .u32,.same),(5,.row .u32,.same)],208⟩)]
noncomputable def Fz(y:yq.J):bJ yq ET:=
 bif(decide (y.1.2.2.2.1<(64:Int))) then
((long 64 y.2.2.2.1).bind fun q=>a_ q.length (IntKind.i64.wrap (y.1.2.2.2.1-(15:Int)))).bind fun a=>
(y.2.2.2.1[a]?).bind fun b=>
(f171 ((b,(7:Int),()),())).bind fun c=>
((long 64 y.2.2.2.1).bind fun q=>a_ q.length (IntKind.i64.wrap (y.1.2.2.2.1-(15:Int)))).bind fun d=>
(y.2.2.2.1[d]?).bind fun e=>
(f171 ((e,(18:Int),()),())).bind fun f=>
((long 64 y.2.2.2.1).bind fun q=>a_ q.length (IntKind.i64.wrap (y.1.2.2.2.1-(15:Int)))).bind fun g=>
(y.2.2.2.1[g]?).bind fun h=>
(e9 .u32 h (3:Int)).bind fun i=>
((long 64 y.2.2.2.1).bind fun q=>a_ q.length (IntKind.i64.wrap (y.1.2.2.2.1-(2:Int)))).bind fun j=>
(y.2.2.2.1[j]?).bind fun k=>
(f171 ((k,(17:Int),()),())).bind fun l=>
((long 64 y.2.2.2.1).bind fun q=>a_ q.length (IntKind.i64.wrap (y.1.2.2.2.1-(2:Int)))).bind fun m=>
(y.2.2.2.1[m]?).bind fun n=>
(f171 ((n,(19:Int),()),())).bind fun B=>
((long 64 y.2.2.2.1).bind fun q=>a_ q.length (IntKind.i64.wrap (y.1.2.2.2.1-(2:Int)))).bind fun p=>
(y.2.2.2.1[p]?).bind fun r=>
(e9 .u32 r (10:Int)).bind fun s=>
((long 64 y.2.2.2.1).bind fun q=>a_ q.length (IntKind.i64.wrap (y.1.2.2.2.1-(16:Int)))).bind fun t=>
(y.2.2.2.1[t]?).bind fun u=>
((long 64 y.2.2.2.1).bind fun q=>a_ q.length (IntKind.i64.wrap (y.1.2.2.2.1-(7:Int)))).bind fun v=>
(y.2.2.2.1[v]?).bind fun w=>
((long 64 y.2.2.2.1).bind fun q=>a_ q.length y.1.2.2.2.1).bind fun x=>
((y.2.2.2.1[x]?).bind fun q=>some (IntKind.u32.wrap ((IntKind.u32.wrap ((IntKind.u32.wrap (u+(dl .u32 (dl .u32 c.1.1 f.1.1) i)))+w))+(dl .u32 (dl .u32 l.1.1 B.1.1) s)))).bind fun z=>
 some (.inl (((),(),(),(IntKind.i64.wrap (y.1.2.2.2.1+(1:Int))),()),y.2.1,y.2.2.1,(y.2.2.2.1.set x z),()))
else
 some (.inr (((),(),(),()),y.2.1,y.2.2.1,y.2.2.2.1,()))
noncomputable def Fk:yq.J->Option (aw ET):=bn Fz
theorem agt:aT U (an (codeOf Tryz.f121) 1 122) (a6 yq ET Fk):=bN tb (by kernel_rfl) af fun y=>by kernel_rfl
abbrev xS:Shape:=⟨[ew 2 2 .u32,ew 4 4 .u32,ew 5 5 .u32,(12,.ak (.d (.int .u32))),(13,.ak (.d (.int .u32))),(14,.ak (.d (.int .u32))),(15,.ak (.d (.int .u32))),(16,.ak (.d (.int .u32))),(17,.ak (.d (.int .u32))),(18,.ak (.d (.int .u32))),(19,.ak (.d (.int .u32))),ad 122],[(2,.row .u32,.same),(4,.row .u32,.same),(5,.row .u32,.same)],208⟩
abbrev D4:List aN:=[(.exit 6,⟨[ew 2 2 .u32,ew 4 4 .u32,(12,.ak (.d (.int .u32))),(13,.ak (.d (.int .u32))),(14,.ak (.d (.int .u32))),(15,.ak (.d (.int .u32))),(16,.ak (.d (.int .u32))),(17,.ak (.d (.int .u32))),(18,.ak (.d (.int .u32))),(19,.ak (.d (.int .u32)))],[(2,.row .u32,.same),(4,.row .u32,.same)],208⟩)]
noncomputable def x2(y:xS.J):bJ xS D4:=
 bif(decide (y.1.2.2.2.2.2.2.2.2.2.2.2.1<(64:Int))) then
(f171 ((y.1.2.2.2.2.2.2.2.1,(6:Int),()),())).bind fun a=>
(f171 ((y.1.2.2.2.2.2.2.2.1,(11:Int),()),())).bind fun b=>
(f171 ((y.1.2.2.2.2.2.2.2.1,(25:Int),()),())).bind fun c=>
(aP iq y.1.2.2.2.2.2.2.2.2.2.2.2.1).bind fun d=>
((long 64 y.2.2.2.1).bind fun q=>a_ q.length y.1.2.2.2.2.2.2.2.2.2.2.2.1).bind fun e=>
(y.2.2.2.1[e]?).bind fun f=>
(f171 ((y.1.2.2.2.1,(2:Int),()),())).bind fun g=>
(f171 ((y.1.2.2.2.1,(13:Int),()),())).bind fun h=>
(f171 ((y.1.2.2.2.1,(22:Int),()),())).bind fun i=>
 some (.inl (((),(),(),(IntKind.u32.wrap ((IntKind.u32.wrap ((IntKind.u32.wrap ((IntKind.u32.wrap ((IntKind.u32.wrap (y.1.2.2.2.2.2.2.2.2.2.2.1+(dl .u32 (dl .u32 a.1.1 b.1.1) c.1.1)))+(dl .u32 (ev .u32 y.1.2.2.2.2.2.2.2.1 y.1.2.2.2.2.2.2.2.2.1) (ev .u32 (dl .u32 4294967295 y.1.2.2.2.2.2.2.2.1) y.1.2.2.2.2.2.2.2.2.2.1))))+d))+f))+(IntKind.u32.wrap ((dl .u32 (dl .u32 g.1.1 h.1.1) i.1.1)+(dl .u32 (dl .u32 (ev .u32 y.1.2.2.2.1 y.1.2.2.2.2.1) (ev .u32 y.1.2.2.2.1 y.1.2.2.2.2.2.1)) (ev .u32 y.1.2.2.2.2.1 y.1.2.2.2.2.2.1)))))),y.1.2.2.2.1,y.1.2.2.2.2.1,y.1.2.2.2.2.2.1,(IntKind.u32.wrap (y.1.2.2.2.2.2.2.1+(IntKind.u32.wrap ((IntKind.u32.wrap ((IntKind.u32.wrap ((IntKind.u32.wrap (y.1.2.2.2.2.2.2.2.2.2.2.1+(dl .u32 (dl .u32 a.1.1 b.1.1) c.1.1)))+(dl .u32 (ev .u32 y.1.2.2.2.2.2.2.2.1 y.1.2.2.2.2.2.2.2.2.1) (ev .u32 (dl .u32 4294967295 y.1.2.2.2.2.2.2.2.1) y.1.2.2.2.2.2.2.2.2.2.1))))+d))+f)))),y.1.2.2.2.2.2.2.2.1,y.1.2.2.2.2.2.2.2.2.1,y.1.2.2.2.2.2.2.2.2.2.1,(IntKind.i64.wrap (y.1.2.2.2.2.2.2.2.2.2.2.2.1+(1:Int))),()),y.2.1,y.2.2.1,y.2.2.2.1,()))
else
 some (.inr (((),(),y.1.2.2.2.1,y.1.2.2.2.2.1,y.1.2.2.2.2.2.1,y.1.2.2.2.2.2.2.1,y.1.2.2.2.2.2.2.2.1,y.1.2.2.2.2.2.2.2.2.1,y.1.2.2.2.2.2.2.2.2.2.1,y.1.2.2.2.2.2.2.2.2.2.2.1,()),y.2.1,y.2.2.1,()))
noncomputable def El:xS.J->Option (aw D4):=bn x2
theorem aex:aT U (an (codeOf Tryz.f121) 1 1018) (a6 xS D4 El):=bN tb (by kernel_rfl) af fun y=>by kernel_rfl
abbrev xR:Shape:=⟨[ew 2 2 .u32,ew 4 4 .u32,b_ 195 [.d (.int .u32),.d (.int .u32),.d (.int .u32),.d (.int .u32),.d (.int .u32),.d (.int .u32),.d (.int .u32),.d (.int .u32)],ad 196],[(2,.row .u32,.same),(4,.row .u32,.same)],208⟩
abbrev D3:List aN:=[(.exit 8,⟨[ew 2 2 .u32,ew 4 4 .u32],[(2,.row .u32,.same),(4,.row .u32,.same)],208⟩)]
noncomputable def OR(y:xR.J):bJ xR D3:=
 bif(decide (y.1.2.2.2.1<(8:Int))) then
(aP ([y.1.2.2.1.1,y.1.2.2.1.2.1,y.1.2.2.1.2.2.1,y.1.2.2.1.2.2.2.1,y.1.2.2.1.2.2.2.2.1,y.1.2.2.1.2.2.2.2.2.1,y.1.2.2.1.2.2.2.2.2.2.1,y.1.2.2.1.2.2.2.2.2.2.2.1]:List Int) y.1.2.2.2.1).bind fun a=>
((long 8 y.2.1).bind fun q=>a_ q.length y.1.2.2.2.1).bind fun b=>
(y.2.1[b]?).bind fun c=>
((long 8 y.2.1).bind fun q=>a_ q.length y.1.2.2.2.1).bind fun d=>
((y.2.1[d]?).bind fun q=>some (IntKind.u32.wrap (c+a))).bind fun e=>
 some (.inl (((),(),(y.1.2.2.1.1,y.1.2.2.1.2.1,y.1.2.2.1.2.2.1,y.1.2.2.1.2.2.2.1,y.1.2.2.1.2.2.2.2.1,y.1.2.2.1.2.2.2.2.2.1,y.1.2.2.1.2.2.2.2.2.2.1,y.1.2.2.1.2.2.2.2.2.2.2.1,()),(IntKind.i64.wrap (y.1.2.2.2.1+(1:Int))),()),(y.2.1.set d e),y.2.2.1,()))
else
 some (.inr (((),(),()),y.2.1,y.2.2.1,()))
noncomputable def Ek:xR.J->Option (aw D3):=bn OR
theorem aew:aT U (an (codeOf Tryz.f121) 1 2042) (a6 xR D3 Ek):=bN tb (by kernel_rfl) af fun y=>by kernel_rfl
abbrev i121:Shape:=⟨[b_ 0 [.d (.int .u32),.d (.int .u32),.d (.int .u32),.d (.int .u32),.d (.int .u32),.d (.int .u32),.d (.int .u32),.d (.int .u32)],aH 1 .u8],[],208⟩
abbrev U':Shape:=⟨[ew 4 4 .u32],[(4,.qk .u32 8,.same)],208⟩
noncomputable def f121(a:i121.J):Option U'.J:=
(GP ((a.1.2.1,(),(),(),(0:Int),()),([a.1.1.1,a.1.1.2.1,a.1.1.2.2.1,a.1.1.2.2.2.1,a.1.1.2.2.2.2.1,a.1.1.2.2.2.2.2.1,a.1.1.2.2.2.2.2.2.1,a.1.1.2.2.2.2.2.2.2.1]:List Int),(List.replicate 8 (0:Int)),(List.replicate 64 (0:Int)),())).bind fun b=>
(Fk (((),(),(),(16:Int),()),b.2.1,b.2.2.1,b.2.2.2.1,())).bind fun c=>
((long 8 c.2.1).bind fun q=>a_ q.length (0:Int)).bind fun d=>
(c.2.1[d]?).bind fun e=>
((long 8 c.2.1).bind fun q=>a_ q.length (1:Int)).bind fun f=>
(c.2.1[f]?).bind fun g=>
((long 8 c.2.1).bind fun q=>a_ q.length (2:Int)).bind fun h=>
(c.2.1[h]?).bind fun i=>
((long 8 c.2.1).bind fun q=>a_ q.length (3:Int)).bind fun j=>
(c.2.1[j]?).bind fun k=>
((long 8 c.2.1).bind fun q=>a_ q.length (4:Int)).bind fun l=>
(c.2.1[l]?).bind fun m=>
((long 8 c.2.1).bind fun q=>a_ q.length (5:Int)).bind fun n=>
(c.2.1[n]?).bind fun B=>
((long 8 c.2.1).bind fun q=>a_ q.length (6:Int)).bind fun p=>
(c.2.1[p]?).bind fun r=>
((long 8 c.2.1).bind fun q=>a_ q.length (7:Int)).bind fun s=>
(c.2.1[s]?).bind fun t=>
(El (((),(),(),e,g,i,k,m,B,r,t,(0:Int),()),c.2.1,c.2.2.1,c.2.2.2.1,())).bind fun u=>
(Ek (((),(),(u.1.2.2.1,u.1.2.2.2.1,u.1.2.2.2.2.1,u.1.2.2.2.2.2.1,u.1.2.2.2.2.2.2.1,u.1.2.2.2.2.2.2.2.1,u.1.2.2.2.2.2.2.2.2.1,u.1.2.2.2.2.2.2.2.2.2.1,()),(0:Int),()),u.2.1,u.2.2.1,())).bind fun v=>
(long 8 v.2.1).bind fun w=>
(long 8 v.2.2.1).bind fun x=>
((long 8 ([(w.getD 0 (0:Int)),(w.getD 1 (0:Int)),(w.getD 2 (0:Int)),(w.getD 3 (0:Int)),(w.getD 4 (0:Int)),(w.getD 5 (0:Int)),(w.getD 6 (0:Int)),(w.getD 7 (0:Int))]:List Int)).bind fun q=>some (q,())).bind fun z=>some (((),()),z)
noncomputable def W4:aF:=aK ah Tryz.f121 i121 U' [] f121
theorem amV:aE U 121 W4:=aL tb Tryz.func121 (by kernel_rfl) (bb ais (bb agt (bb aex (bb aew af)))) (fun y=>by kernel_rfl) fun a=>by kernel_rfl
def fU(ws:List Int)(v:Int):List Int:=ws++v::List.replicate (63-ws.length) 0
def j_(ws:List Int):List Int:=ws++List.replicate (64-ws.length) 0
theorem Ti{ws:List Int}(h:ws.length<64):j_ ws=fU ws 0:=by
 unfold j_ fU;rw[show 64-ws.length=(63-ws.length)+1 by omega];rfl
theorem SN{ws:List Int}(h:ws.length<64)(v:Int):fU ws v=j_ (ws++[v]):=by
 unfold j_ fU;rw[List.length_append,show 64-(ws.length+[v].length)=63-ws.length from by show 64-(ws.length+1)=_;omega,List.append_assoc]
 rfl
theorem Rp{ws:List Int}(h:ws.length<64)(v:Int):(fU ws v).length=64:=by unfold fU;simp;omega
theorem zv{ax:Type}{n:Nat}{xs:List ax}(h:xs.length=n):long n xs=some xs:=by unfold long;rw[if_pos h]
theorem Rq{ws:List Int}(h:ws.length<64)(v:Int){k:Nat}(hk:k<64):((long 64 (fU ws v)).bind fun q=>a_ q.length (k:Int))=some k:=by
 rw[zv (Rp h v)];exact fm (by rw[Rp h];exact hk)
theorem uY(ws:List Int)(v:Int):(fU ws v)[ws.length]? =some v:=by unfold fU;rw[List.getElem?_append_right (Nat.le_refl _)];simp
theorem Af{ws:List Int}{v:Int}{k:Nat}(h:k<ws.length):(fU ws v)[k]? =some (gb ws k):=by
 unfold fU;rw[List.getElem?_append_left h];exact lO h
theorem uX(ws:List Int)(v u:Int):(fU ws v).set ws.length u=fU ws u:=by unfold fU;rw[List.set_append_right _ _ (Nat.le_refl _)];simp
theorem ald(b:List Int):∀(ws:List Int) (i:Nat) (c0 c1 c2 c3:Int) (r0 r1:List Int),ws.length=i->i<64->
  DK ((b,((),((),((),((i:Int),((i:Int),(([c0,c1,c2,c3]:List Int),((([c0,c1,c2,c3]:List Int).length:Int),((0:Int),()))))))))),(r0,(r1,(fU ws 0,()))))=
  some ((b,((),((),((),((i:Int),()))))),(r0,(r1,(fU ws (gN (gN (gN (gN 0 c0) c1) c2) c3),())))):=by
 intro ws i c0 c1 c2 c3 r0 r1 hw hi;subst hw;refine fM (g:=px) (fun j=>((b,((),((),((),((ws.length:Int),((ws.length:Int),(([c0,c1,c2,c3]:List Int),((([c0,c1,c2,c3]:List Int).length:Int),((j:Int),()))))))))),
  (r0,(r1,(fU ws (match j with|0=>0|1=>gN 0 c0|2=>gN (gN 0 c0) c1|3=>gN (gN (gN 0 c0) c1) c2|_=>gN (gN (gN (gN 0 c0) c1) c2) c3),()))))) 4 (fun j hj=>?_) ?_ 4 0 rfl
 ·have hx:∀v:Int,((long 64 (fU ws v)).bind fun q=>a_ q.length (ws.length:Int))=some ws.length:=fun v=>Rq hi v hi
  have:j=0\/j=1\/j=2\/j=3:=by omega
  have n0:IntKind.i64.wrap (((0:Nat):Int)+1)=((0+1:Nat):Int):=rfl;have n1:IntKind.i64.wrap (((1:Nat):Int)+1)=((1+1:Nat):Int):=rfl;have n2:IntKind.i64.wrap (((2:Nat):Int)+1)=((2+1:Nat):Int):=rfl;have ix:IntKind.i64.wrap (((3:Nat):Int)+1)=((3+1:Nat):Int):=rfl;have c:∀k:Nat,k<4->decide (((k:Nat):Int)<(([c0,c1,c2,c3]:List Int).length:Int))=true:=fun k hk=>by simp;omega
  have e4:aP ([c0,c1,c2,c3]:List Int) ((0:Nat):Int)=some c0:=rfl;have dX:aP ([c0,c1,c2,c3]:List Int) ((1:Nat):Int)=some c1:=rfl;have fJ:aP ([c0,c1,c2,c3]:List Int) ((2:Nat):Int)=some c2:=rfl;have jp:aP ([c0,c1,c2,c3]:List Int) ((3:Nat):Int)=some c3:=rfl;rcases this with rfl|rfl|rfl|rfl
  ·simp only[px,c 0 (by omega),cond_true,hx,uY,uX,Option.bind_some,vA,n0,e4];rfl
  ·simp only[px,c 1 (by omega),cond_true,hx,uY,uX,Option.bind_some,vA,n1,dX];rfl
  ·simp only[px,c 2 (by omega),cond_true,hx,uY,uX,Option.bind_some,vA,n2,fJ];rfl
  ·simp only[px,c 3 (by omega),cond_true,hx,uY,uX,Option.bind_some,vA,ix,jp];rfl
 ·have:decide (((4:Nat):Int)<(([c0,c1,c2,c3]:List Int).length:Int))=false:=rfl;simp only[px,this,cond_false]
theorem alh(b:List Int)(hb:q3 b):∀r0 r1:List Int,GP ((b,((),((),((),((0:Int),()))))),(r0,(r1,(List.replicate 64 (0:Int),()))))=some (((),((),((),()))),(r0,(r1,(j_ (cm b 16),())))):=by
 intro r0 r1;refine fM (g:=Hb) (fun i=>((b,((),((),((),((i:Int),()))))),(r0,(r1,(j_ (cm b i),()))))) 16 (fun i hi=>?_) rfl 16 0 rfl
 have hl:decide ((i:Int)<16)=true:=by simp;omega
 have hlen:=nq b i;have Z:decide (i<16)=true:=by simpa using hi
 have jL:IntKind.i64.wrap (((4*i:Nat):Int)+4)=((4*i+4:Nat):Int):=by have:=q5 (i:=i) (by omega) 4 (by omega);rwa[tg (by omega)] at this
 have hs:bw b ((4*i:Nat):Int) ((4*i+4:Nat):Int)=some [gb b (4*i),gb b (4*i+1),gb b (4*i+2),gb b (4*i+3)]:=by
  rw[pJ (by omega) (by rw[hb.1];omega)]
  congr 1
  apply List.ext_getElem?;intro j;rw[List.getElem?_drop,List.getElem?_take];by_cases hj:j<4
  ·rw[if_pos (by omega),lO (by rw[hb.1];omega)]
   have:j=0\/j=1\/j=2\/j=3:=by omega
   rcases this with rfl|rfl|rfl|rfl<;>rfl
  ·rw[if_neg (by omega)]
   rw[List.getElem?_eq_none (by simp;omega)]
 have hw:=ahp (hb.pg (j:=4*i) (by omega)) (hb.pg (j:=4*i+1) (by omega)) (hb.pg (j:=4*i+2) (by omega)) (hb.pg (j:=4*i+3) (by omega))
 have CK:=ald b (cm b i) i (gb b (4*i)) (gb b (4*i+1)) (gb b (4*i+2)) (gb b (4*i+3)) r0 r1 hlen (by omega)
 rw[hw] at CK;have hf:=Ti (ws:=cm b i) (by omega)
 have hn:j_ (cm b (i+1))=fU (cm b i) (wd (gb b (4*i)) (gb b (4*i+1)) (gb b (4*i+2)) (gb b (4*i+3))):=by rw[SN (by omega)];simp only[cm,Z,cond_true]
 simp only[Hb,hl,cond_true,tg (i:=i) (by omega),jL,hs,Option.bind_some,hf,CK,hn,wp (i:=i) (by omega)]
theorem alg(b:List Int):∀r0 r1:List Int,Fk (((),((),((),((16:Int),())))),(r0,(r1,(j_ (cm b 16),()))))=some (((),((),((),()))),(r0,(r1,(j_ (cm b 64),())))):=by
 have t2:=fun x=>hq x 2 (by simp[eI]);have t6:=fun x=>hq x 6 (by simp[eI]);have t11:=fun x=>hq x 11 (by simp[eI])
 have t13:=fun x=>hq x 13 (by simp[eI]);have t22:=fun x=>hq x 22 (by simp[eI]);have t25:=fun x=>hq x 25 (by simp[eI])
 have t7:=fun x=>hq x 7 (by simp[eI]);have t18:=fun x=>hq x 18 (by simp[eI]);have t17:=fun x=>hq x 17 (by simp[eI]);have t19:=fun x=>hq x 19 (by simp[eI])
 intro r0 r1;refine fM (g:=Fz) (fun i=>(((),((),((),(((16+i:Nat):Int),())))),(r0,(r1,(j_ (cm b (16+i)),()))))) 48 (fun i hi=>?_) rfl 48 0 rfl
 have hl:decide (((16+i:Nat):Int)<64)=true:=by simp;omega
 have hlen:=nq b (16+i);have Z:decide (16+i<16)=false:=by simp
 have hf:=Ti (ws:=cm b (16+i)) (by omega)
 have hs:j_ (cm b (16+(i+1)))=fU (cm b (16+i)) (vE (cm b (16+i)) (16+i)):=by
  show j_ (cm b ((16+i)+1))=_;rw[SN (by omega)];simp only[cm,Z,cond_false]
 have asS:=pj (i:=16+i) (q:=15) 15 rfl (by omega) (by omega)
 have e2:=pj (i:=16+i) (q:=2) 2 rfl (by omega) (by omega)
 have asR:=pj (i:=16+i) (q:=16) 16 rfl (by omega) (by omega)
 have w9:=pj (i:=16+i) (q:=7) 7 rfl (by omega) (by omega)
 have hx:∀k:Nat,k<64->((long 64 (fU (cm b (16+i)) 0)).bind fun q=>a_ q.length (k:Int))=some k:=fun k hk=>Rq (by omega) _ hk
 have g15:=Af (ws:=cm b (16+i)) (v:=0) (k:=16+i-15) (by omega)
 have g2:=Af (ws:=cm b (16+i)) (v:=0) (k:=16+i-2) (by omega)
 have g16:=Af (ws:=cm b (16+i)) (v:=0) (k:=16+i-16) (by omega)
 have g7:=Af (ws:=cm b (16+i)) (v:=0) (k:=16+i-7) (by omega)
 have kN:(fU (cm b (16+i)) 0)[16+i]? =some 0:=by have:=uY (cm b (16+i)) 0;rwa[hlen] at this
 have gs:∀u,(fU (cm b (16+i)) 0).set (16+i) u=fU (cm b (16+i)) u:=fun u=>by have:=uX (cm b (16+i)) 0 u;rwa[hlen] at this
 simp only[Fz,hl,cond_true,hf,asS,e2,asR,w9,hx (16+i-15) (by omega),hx (16+i-2) (by omega),hx (16+i-16) (by omega),hx (16+i-7) (by omega),hx (16+i) (by omega),g15,g2,g16,g7,kN,gs,Option.bind_some,t7,t18,t17,t19,TL,SR,wp (i:=16+i) (by omega),hs,vE,Ka,J']
 rfl
theorem alf(R:Nat->ci)(W:List Int)(hW:W.length=64)(hR:∀i,R (i+1)=vB (gb iq i) (gb W i) (R i))(r0 r1:List Int):El (((),((),((),((R 0).a,((R 0).b,((R 0).c,((R 0).d,((R 0).e,((R 0).f,((R 0).g,((R 0).h,((0:Int),())))))))))))),(r0,(r1,(W,()))))=
  some (((),((),((R 64).a,((R 64).b,((R 64).c,((R 64).d,((R 64).e,((R 64).f,((R 64).g,((R 64).h,())))))))))),(r0,(r1,()))):=by
 have t2:=fun x=>hq x 2 (by simp[eI]);have t6:=fun x=>hq x 6 (by simp[eI]);have t11:=fun x=>hq x 11 (by simp[eI])
 have t13:=fun x=>hq x 13 (by simp[eI]);have t22:=fun x=>hq x 22 (by simp[eI]);have t25:=fun x=>hq x 25 (by simp[eI])
 have t7:=fun x=>hq x 7 (by simp[eI]);have t18:=fun x=>hq x 18 (by simp[eI]);have t17:=fun x=>hq x 17 (by simp[eI]);have t19:=fun x=>hq x 19 (by simp[eI])
 refine fM (g:=x2) (fun i=>(((),((),((),((R i).a,((R i).b,((R i).c,((R i).d,((R i).e,((R i).f,((R i).g,((R i).h,((i:Int),())))))))))))),(r0,(r1,(W,()))))) 64 (fun i hi=>?_) ?_ 64 0 rfl
 ·have hl:decide ((i:Int)<64)=true:=by simp;omega
  have g1:=vn (b:=iq) (j:=i) (by rw[Gi];exact hi)
  have hx:((long 64 W).bind fun q=>a_ q.length (i:Int))=some i:=by rw[zv hW];exact fm (by rw[hW];exact hi)
  have g2:=lO (b:=W) (j:=i) (by rw[hW];exact hi)
  rw[hR i];generalize R i=s;simp only[x2,hl,cond_true,g1,hx,g2,Option.bind_some,t2,t6,t11,t13,t22,t25,wp (i:=i) (by omega),vB,Cn,K',La,K_,Kf]
 ·have:decide (((64:Nat):Int)<64)=false:=rfl;simp only[x2,this,cond_false]
theorem ale(h:ci):∀(s:ci) (r1:List Int),Ek (((),((),((s.a,(s.b,(s.c,(s.d,(s.e,(s.f,(s.g,(s.h,())))))))),((0:Int),())))),(h.list,(r1,())))=some (((),((),())),((B5 h s).list,(r1,()))):=by
 intro s r1;refine fM (g:=OR) (fun i=>(((),((),((s.a,(s.b,(s.c,(s.d,(s.e,(s.f,(s.g,(s.h,())))))))),((i:Int),())))),((B5 h s).list.take i++h.list.drop i,(r1,())))) 8 (fun i hi=>?_) rfl 8 0 rfl
 have:i=0\/i=1\/i=2\/i=3\/i=4\/i=5\/i=6\/i=7:=by omega
 rcases this with rfl|rfl|rfl|rfl|rfl|rfl|rfl|rfl<;>(show _=_;kernel_rfl)
theorem aci(h:ci)(b:List Int)(hb:q3 b):f121 (((h.a,(h.b,(h.c,(h.d,(h.e,(h.f,(h.g,(h.h,())))))))),(b,())),())=some (((),()),((vR h b).list,())):=by
 have aB:=alh b hb;have aA:=alg b;have pd:j_ (cm b 64)=cm b 64:=by unfold j_;rw[nq];simp
 have bC:=alf (l5 h (cm b 64)) (cm b 64) (nq b 64) (fun _=>rfl)
 have e1:(l5 h (cm b 64) 0)=h:=rfl;rw[e1] at bC;have cO:=ale h;have dY:∀s:ci,s.list.length=8:=fun s=>rfl
 have hx:∀k:Nat,k<8->((long 8 h.list).bind fun q=>a_ q.length (k:Int))=some k:=fun k hk=>by rw[zv (dY h)];exact fm (by rw[dY];exact hk)
 have z0:=hx 0 (by omega);have fI:=hx 1 (by omega);have z2:=hx 2 (by omega);have z3:=hx 3 (by omega)
 have z4:=hx 4 (by omega);have z5:=hx 5 (by omega);have _r:=hx 6 (by omega);have C7:=hx 7 (by omega)
 have eT:([h.a,h.b,h.c,h.d,h.e,h.f,h.g,h.h]:List Int)=h.list:=rfl;have dw:h.list[0]? =some h.a:=rfl;have eD:h.list[1]? =some h.b:=rfl;have fi:h.list[2]? =some h.c:=rfl;have mi:h.list[3]? =some h.d:=rfl;have LH:h.list[4]? =some h.e:=rfl;have wU:h.list[5]? =some h.f:=rfl;have LG:h.list[6]? =some h.g:=rfl;have LF:h.list[7]? =some h.h:=rfl;simp only[Int.cast_ofNat_Int,Int.natCast_zero] at z0 fI z2 z3 z4 z5 _r C7;simp only[f121,eT,aB,aA,pd,Option.bind_some,z0,fI,z2,z3,z4,z5,_r,C7,dw,eD,fi,mi,LH,wU,LG,LF,bC,cO];rw[zv (dY _)];rfl
abbrev yZ:Shape:=⟨[ap 0,bf 3 3000192],[be 3000192 .u8 3 0],33⟩
abbrev FT:List aN:=[(.exit 0,⟨[ap 0,bf 3 3000192],[be 3000192 .u8 3 0],33⟩)]
noncomputable def zG(y:yZ.J):bJ yZ FT:=
(lW (y.2.1.length:Int) (64:Int)).bind fun a=>
 bif(a !=(56:Int)) then
(cy 1 y.2.1 ([(0:Int)]:List Int)).bind fun b=>
 some (.inl ((y.1.1,(),()),b,()))
else
 some (.inr ((y.1.1,(),()),y.2.1,()))
noncomputable def Gw:yZ.J->Option (aw FT):=bn zG
theorem ahT:aT U (an (codeOf Tryz.f256) 1 28) (a6 yZ FT Gw):=bN g0 (by kernel_rfl) af fun y=>by kernel_rfl
abbrev yh:Shape:=⟨[bf 3 3000192,ad 4,ad 5],[be 3000192 .u8 3 0],33⟩
abbrev EM:List aN:=[(.exit 2,⟨[bf 3 3000192],[be 3000192 .u8 3 0],33⟩)]
noncomputable def Fx(y:yh.J):bJ yh EM:=
 bif(decide (y.1.2.2.1>=(0:Int))) then
(e9 .i64 y.1.2.1 (IntKind.i64.wrap ((8:Int)*y.1.2.2.1))).bind fun a=>
(cy 1 y.2.1 ([(IntKind.u8.wrap a)]:List Int)).bind fun b=>
 some (.inl (((),y.1.2.1,(IntKind.i64.wrap (y.1.2.2.1-(1:Int))),()),b,()))
else
 some (.inr (((),()),y.2.1,()))
noncomputable def Fc:yh.J->Option (aw EM):=bn Fx
theorem age:aT U (an (codeOf Tryz.f256) 1 250) (a6 yh EM Fc):=bN g0 (by kernel_rfl) af fun y=>by kernel_rfl
abbrev i256:Shape:=⟨[ap 0],[],33⟩
abbrev T3:Shape:=⟨[bf 2 3000128],[be 3000128 .u8 2 0],33⟩
noncomputable def f256(a:i256.J):Option T3.J:=
(if a.1.1.length<=maxLen then some () else none).bind fun b=>
(cy 1 (bytesOf a.1.1) ([(128:Int)]:List Int)).bind fun c=>
(Gw ((a.1.1,(),()),c,())).bind fun d=>
(Fc (((),(IntKind.i64.wrap ((d.1.1.length:Int)*(8:Int))),(7:Int),()),d.2.1,())).bind fun e=>
 some (((),()),e.2.1,())
noncomputable def V6:aF:=aK ah Tryz.f256 i256 T3 [] f256
theorem ami:aE U 256 V6:=aL g0 Tryz.func256 (by kernel_rfl) (bb ahT (bb age af)) (fun y=>by kernel_rfl) fun a=>by kernel_rfl
noncomputable abbrev aox:bg:=[(256,V6),(257,V5)]
theorem JN:aW U (bd ah aox):=bc ⟨ami,amh,⟨⟩⟩
abbrev yj:Shape:=⟨[bf 3 3000192,aH 4 .u8,ad 5],[be 3000192 .u32 3 0],57⟩
abbrev EO:List aN:=[(.exit 0,⟨[bf 3 3000192],[be 3000192 .u32 3 0],57⟩)]
noncomputable def yF(y:yj.J):bJ yj EO:=
 bif(decide (y.1.2.2.1<(y.1.2.1.length:Int))) then
(bw y.1.2.1 y.1.2.2.1 (IntKind.i64.wrap (y.1.2.2.1+(64:Int)))).bind fun a=>
(f257 ((y.2.1,a,()),())).bind fun b=>
 some (.inl (((),y.1.2.1,(IntKind.i64.wrap (y.1.2.2.1+(64:Int))),()),b.2.1,()))
else
 some (.inr (((),()),y.2.1,()))
noncomputable def Ff:yj.J->Option (aw EO):=bn yF
theorem agi:aT U (an (codeOf Tryz.f220) 1 122) (a6 yj EO Ff):=bN JN (by kernel_rfl) af fun y=>by kernel_rfl
abbrev yi:Shape:=⟨[bf 3 3000192,bf 6 3000384,ad 7],[be 3000192 .u32 3 0,be 3000384 .u8 6 0],57⟩
abbrev EN:List aN:=[(.exit 2,⟨[bf 6 3000384],[be 3000384 .u8 6 0],57⟩)]
noncomputable def PU(y:yi.J):bJ yi EN:=
 bif(decide (y.1.2.2.1<(8:Int))) then
(a_ y.2.1.length y.1.2.2.1).bind fun a=>
(y.2.1[a]?).bind fun b=>
(e9 .u32 b (24:Int)).bind fun c=>
(a_ y.2.1.length y.1.2.2.1).bind fun d=>
(y.2.1[d]?).bind fun e=>
(e9 .u32 e (16:Int)).bind fun f=>
(a_ y.2.1.length y.1.2.2.1).bind fun g=>
(y.2.1[g]?).bind fun h=>
(e9 .u32 h (8:Int)).bind fun i=>
(a_ y.2.1.length y.1.2.2.1).bind fun j=>
(y.2.1[j]?).bind fun k=>
(cy 1 y.2.2.1 ([(IntKind.u8.wrap c),(IntKind.u8.wrap f),(IntKind.u8.wrap i),(IntKind.u8.wrap k)]:List Int)).bind fun l=>
 some (.inl (((),(),(IntKind.i64.wrap (y.1.2.2.1+(1:Int))),()),y.2.1,l,()))
else
 some (.inr (((),()),y.2.2.1,()))
noncomputable def Fe:yi.J->Option (aw EN):=bn PU
theorem agh:aT U (an (codeOf Tryz.f220) 1 506) (a6 yi EN Fe):=bN JN (by kernel_rfl) af fun y=>by kernel_rfl
abbrev i220:Shape:=⟨[ap 0],[],57⟩
abbrev Ua:Shape:=⟨[ap 2],[],57⟩
noncomputable def f220(a:i220.J):Option Ua.J:=
(f256 ((a.1.1,()),())).bind fun b=>
(Ff (((),b.2.1,(0:Int),()),([(1779033703:Int),(3144134277:Int),(1013904242:Int),(2773480762:Int),(1359893119:Int),(2600822924:Int),(528734635:Int),(1541459225:Int)]:List Int),())).bind fun c=>
(Fe (((),(),(0:Int),()),c.2.1,([]:List Int),())).bind fun d=>
 some (((strOf d.2.1),()),())
noncomputable def Wd:aF:=aK ah Tryz.f220 i220 Ua [] f220
theorem amn:aE U 220 Wd:=aL JN Tryz.func220 (by kernel_rfl) (bb agi (bb agh af)) (fun y=>by kernel_rfl) fun a=>by kernel_rfl
def j7(n:Nat):Nat:=(120-n%64)%64
def j1(n:Int):List Int:=[IntKind.u8.wrap (n.fdiv (2^56)),IntKind.u8.wrap (n.fdiv (2^48)),IntKind.u8.wrap (n.fdiv (2^40)),IntKind.u8.wrap (n.fdiv (2^32)),IntKind.u8.wrap (n.fdiv (2^24)),IntKind.u8.wrap (n.fdiv (2^16)),IntKind.u8.wrap (n.fdiv (2^8)),IntKind.u8.wrap (n.fdiv (2^0))]
def jb(s:F):List Int:=(bytesOf s++[128])++List.replicate (j7 (s.length+1)) 0
def eh(s:F):List Int:=jb s++j1 ((s.length:Int)*8)
theorem js(s:F):(bytesOf s).length=s.length:=by simp[bytesOf]
theorem uW(n:Nat):j7 n<64:=Nat.mod_lt _ (by decide)
theorem FG(n:Nat):(n+j7 n)%64=56:=by unfold j7;omega
theorem P6(n j:Nat)(h:j<j7 n):(n+j)%64≠56:=by unfold j7 at h;omega
theorem E2(s:F):(jb s).length=s.length+1+j7 (s.length+1):=by simp[jb,js];omega
theorem yu(s:F):(eh s).length=s.length+1+j7 (s.length+1)+8:=by simp[eh,E2,j1]
theorem aju(x:Int):j' (IntKind.u8.wrap x):=by rw[IntKind.wrap_u8];constructor<;>omega
theorem PK(s:F):∀x,x∈eh s->j' x:=by
 intro x hx;rcases List.mem_append.1 hx with h|h
 ·rcases List.mem_append.1 h with h|h
  ·rcases List.mem_append.1 h with h|h
   ·obtain⟨b,_,rfl⟩:=List.mem_map.1 h;have:=b.toNat_lt;constructor<;>omega
   ·rw[List.mem_singleton.1 h];decide
  ·rw[(List.mem_replicate.1 h).2];decide
 ·simp only[j1,List.mem_cons,List.not_mem_nil,or_false] at h;rcases h with rfl|rfl|rfl|rfl|rfl|rfl|rfl|rfl<;>exact aju _
def qx(d:List Int)(k:Nat):List Int:=(d.take (64*k+64)).drop (64*k)
theorem Rk{d:List Int}{k:Nat}(h:64*k+64<=d.length)(hb:∀x,x∈d->j' x):q3 (qx d k):=
 ⟨by unfold qx;simp;omega,fun x hx=>hb x (List.mem_of_mem_take (List.mem_of_mem_drop hx))⟩
def xf:ci:=⟨1779033703,3144134277,1013904242,2773480762,1359893119,2600822924,528734635,1541459225⟩
def tq(d:List Int):Nat->ci
 |0=>xf
 |k+1=>vR (tq d k) (qx d k)
def ez(s:F):ci:=tq (eh s) ((eh s).length/64)
theorem Gl(s:F):64*((eh s).length/64)=(eh s).length:=by
 have:=FG (s.length+1);rw[yu];omega
theorem Bl(n:Nat):lW (n:Int) 64=some ((n%64:Nat):Int):=by
 rw[HH (by omega) (by omega)];simp
theorem P0(n:Nat)(d:List Int):d++List.replicate n 0++[0]=d++List.replicate (n+1) 0:=by
 rw[List.append_assoc,<-List.replicate_succ']
theorem ala{x:Int}{k:Nat}(h:k<=64):e9 .i64 x (k:Int)=some (x.fdiv (2^k)):=by
 unfold e9;rw[if_neg (by omega),Int.toNat_natCast,show IntKind.i64.bits=64 from rfl,Nat.min_eq_left h]
theorem ajy{x:Int}{k:Nat}(h:k<=64):e9 .u64 x (k:Int)=some (x.fdiv (2^k)):=by
 unfold e9;rw[if_neg (by omega),Int.toNat_natCast,show IntKind.u64.bits=64 from rfl,Nat.min_eq_left h]
theorem OK(n:Int){i:Nat}(h:i<8):(j1 n).take (i+1)=(j1 n).take i++[IntKind.u8.wrap (n.fdiv (2^(8*(7-i))))]:=by
 have:i=0\/i=1\/i=2\/i=3\/i=4\/i=5\/i=6\/i=7:=by omega
 rcases this with rfl|rfl|rfl|rfl|rfl|rfl|rfl|rfl<;>rfl
abbrev pn(s:F):Prop:=s.length<=1073741824
theorem acm(s:F)(h:pn s):f256 ((s,()),())=some (((),()),(eh s,())):=by
 have hm:(if s.length<=maxLen then some () else none)=some ():=if_pos (by unfold maxLen;omega)
 have ha:cy 1 (bytesOf s) ([128]:List Int)=some (bytesOf s++[128]):=dS (by decide) (by unfold am;rw[js];simp;omega)
 have aB:Gw ((s,((),())),(bytesOf s++[128],()))=some ((s,((),())),(jb s,())):=by
  have hz:=uW (s.length+1);have qN:∀i:Nat,(bytesOf s++[128]++List.replicate i (0:Int)).length=s.length+1+i:=fun i=>by simp[js];omega
  have:=fM (g:=zG) (fun i=>((s,((),())),(bytesOf s++[128]++List.replicate i (0:Int),()))) (j7 (s.length+1)) (b:=((s,((),())),(jb s,()))) (fun i hi=>?_) ?_ (j7 (s.length+1)) 0 (by omega)
  ·rw[List.replicate_zero,List.append_nil] at this;exact this
  ·have hne:((((s.length+1+i)%64:Nat):Int) !=56)=true:=by have:=P6 (s.length+1) i hi;rw[bne_iff_ne];omega
   simp only[zG,qN,Bl,Option.bind_some,hne,cond_true];rw[dS (by decide) (by unfold am;rw[qN];simp;omega)]
   simp only[Option.bind_some,P0]
  ·have hne:((((s.length+1+j7 (s.length+1))%64:Nat):Int) !=56)=false:=by have:=FG (s.length+1);rw[this];rfl
   simp only[zG,qN,Bl,Option.bind_some,hne,cond_false];rfl
 have aA:∀n:Int,Fc (((),(n,((7:Int),()))),(jb s,()))=some (((),()),(jb s++j1 n,())):=by
  intro n;have:=fM (g:=Fx) (fun i=>(((),(n,((7-(i:Int)),()))),(jb s++(j1 n).take i,()))) 8 (b:=(((),()),(jb s++j1 n,()))) (fun i hi=>?_) rfl 8 0 rfl
  ·rw[show(7:Int)-((0:Nat):Int)=7 from rfl,List.take_zero,List.append_nil] at this;exact this
  ·have hl:decide ((7-(i:Int))>=0)=true:=by simp;omega
   have hw:IntKind.i64.wrap (8*(7-(i:Int)))=((8*(7-i):Nat):Int):=by rw[ee (by omega) (by omega)];omega
   have hs:IntKind.i64.wrap (7-(i:Int)-1)=7-((i+1:Nat):Int):=by rw[ee (by omega) (by omega)];omega
   simp only[Fx,hl,cond_true,hw,ala (x:=n) (k:=8*(7-i)) (by omega),Option.bind_some,hs]
   rw[dS (by decide) (by unfold am;simp[E2,j1];have:=uW (s.length+1);omega)]
   simp only[Option.bind_some,List.append_assoc,OK n hi]
 have hn:IntKind.i64.wrap ((s.length:Int)*8)=(s.length:Int)*8:=ee (by omega) (by omega)
 simp only[f256,hm,ha,Option.bind_some,aB,hn,aA];rfl
theorem aht(s:F)(h:pn s):f220 ((s,()),())=some ((strOf ((ez s).list.flatMap fun w=>[IntKind.u8.wrap (w.fdiv (2^24)),IntKind.u8.wrap (w.fdiv (2^16)),IntKind.u8.wrap (w.fdiv (2^8)),IntKind.u8.wrap w]),()),()):=by
 have dY:=Gl s;have hlen:=yu s;have hz:=uW (s.length+1);have jJ:=PK s;have aB:Ff (((),(eh s,((0:Int),()))),(xf.list,()))=some (((),()),((ez s).list,())):=by
  refine fM (g:=yF) (fun k=>(((),(eh s,(((64*k:Nat):Int),()))),((tq (eh s) k).list,()))) ((eh s).length/64) (fun k hk=>?_) ?_ ((eh s).length/64) 0 (by omega)
  ·have hk2:64*k+64<=(eh s).length:=by omega
   have hl:decide (((64*k:Nat):Int)<((eh s).length:Int))=true:=by simp;omega
   have hw:IntKind.i64.wrap (((64*k:Nat):Int)+64)=((64*k+64:Nat):Int):=by rw[ee (by omega) (by omega)];omega
   have hs:bw (eh s) ((64*k:Nat):Int) ((64*k+64:Nat):Int)=some (qx (eh s) k):=pJ (by omega) hk2
   have hb:=adE (tq (eh s) k) (qx (eh s) k) (Rk hk2 jJ);simp only[yF,hl,cond_true,hw,hs,Option.bind_some,hb];rfl
  ·have hl:decide (((64*((eh s).length/64):Nat):Int)<((eh s).length:Int))=false:=by simp;omega
   simp only[yF,hl,cond_false];rfl
 have aA:∀q:ci,Fe (((),((),((0:Int),()))),(q.list,(([]:List Int),())))=some (((),()),((q.list.flatMap fun w=>[IntKind.u8.wrap (w.fdiv (2^24)),IntKind.u8.wrap (w.fdiv (2^16)),IntKind.u8.wrap (w.fdiv (2^8)),IntKind.u8.wrap w]),())):=by
  intro q;refine fM (g:=PU) (fun i=>(((),((),((i:Int),()))),(q.list,((q.list.take i).flatMap fun w=>[IntKind.u8.wrap (w.fdiv (2^24)),IntKind.u8.wrap (w.fdiv (2^16)),IntKind.u8.wrap (w.fdiv (2^8)),IntKind.u8.wrap w],())))) 8 (fun i hi=>?_) rfl 8 0 rfl
  have:i=0\/i=1\/i=2\/i=3\/i=4\/i=5\/i=6\/i=7:=by omega
  rcases this with rfl|rfl|rfl|rfl|rfl|rfl|rfl|rfl<;>(show _=_;kernel_rfl)
 have lz:=acm s h;have eT:([1779033703,3144134277,1013904242,2773480762,1359893119,2600822924,528734635,1541459225]:List Int)=xf.list:=rfl;simp only[f220,lz,Option.bind_some,eT,aB,aA]
abbrev Se:Shape:=⟨[aM 0 500000 0,(1,.ak (.d (.int .u8)))],[bv 37000001 .u8 500000 1,aO 500000 [.dn,.own 37000001]],17⟩
abbrev RZ:Shape:=⟨[aM 0 500000 0,(4,.ak (.BS))],[bv 37000001 .u8 500000 1,aO 500000 [.dn,.own 37000001]],17⟩
noncomputable def Ib(a:Se.J):Option RZ.J:=
(cy 1 a.2.1 ([a.1.2.1]:List Int)).bind fun b=>
 some (((),(),()),b,((),(),()),())
noncomputable def SD:aF:=aK ah Tryz.f122 Se RZ [0] Ib
theorem ajm:aE U 122 SD:=aL g0 Tryz.func122 (by kernel_rfl) af (fun y=>by kernel_rfl) fun a=>by kernel_rfl
abbrev yk:Shape:=⟨[ap 0,ap 3,bf 4 3000256,ad 5],[be 3000256 .u8 4 0],30⟩
abbrev EP:List aN:=[(.exit 0,⟨[bf 4 3000256],[be 3000256 .u8 4 0],30⟩)]
noncomputable def yG(y:yk.J):bJ yk EP:=
 bif(decide (y.1.2.2.2.1<(y.1.1.length:Int))) then
(aP y.1.1 y.1.2.2.2.1).bind fun a=>
(nL .u8 (a.toNat:Int) (16:Int)).bind fun b=>
(aP y.1.2.1 b).bind fun c=>
(aP y.1.1 y.1.2.2.2.1).bind fun d=>
(lW (d.toNat:Int) (16:Int)).bind fun e=>
(aP y.1.2.1 e).bind fun f=>
(cy 1 y.2.1 ([(c.toNat:Int),(f.toNat:Int)]:List Int)).bind fun g=>
 some (.inl ((y.1.1,y.1.2.1,(),(IntKind.i64.wrap (y.1.2.2.2.1+(1:Int))),()),g,()))
else
 some (.inr (((),()),y.2.1,()))
noncomputable def Fg:yk.J->Option (aw EP):=bn yG
theorem agj:aT U (an (codeOf Tryz.f219) 1 122) (a6 yk EP Fg):=bN g0 (by kernel_rfl) af fun y=>by kernel_rfl
abbrev i219:Shape:=⟨[ap 0],[],30⟩
abbrev Ub:Shape:=⟨[ap 2],[],30⟩
noncomputable def f219(a:i219.J):Option Ub.J:=
(Fg ((a.1.1,([48,49,50,51,52,53,54,55,56,57,97,98,99,100,101,102]:F),(),(0:Int),()),([]:List Int),())).bind fun b=>
 some (((strOf b.2.1),()),())
noncomputable def We:aF:=aK ah Tryz.f219 i219 Ub [] f219
theorem amo:aE U 219 We:=aL g0 Tryz.func219 (by kernel_rfl) (bb agj af) (fun y=>by kernel_rfl) fun a=>by kernel_rfl
noncomputable abbrev aoR:bg:=[(219,We),(220,Wd)]
theorem apO:aW U (bd ah aoR):=bc ⟨amo,amn,⟨⟩⟩
abbrev i173:Shape:=⟨[ap 0],[],7⟩
abbrev UE:Shape:=⟨[ap 2],[],7⟩
noncomputable def f173(a:i173.J):Option UE.J:=
(f220 ((a.1.1,()),())).bind fun b=>
(f219 ((b.1.1,()),())).bind fun c=>
(bw c.1.1 (0:Int) (16:Int)).bind fun d=>
 some ((d,()),())
noncomputable def WB:aF:=aK ah Tryz.f173 i173 UE [] f173
theorem z173:aE U 173 WB:=aL apO Tryz.func173 (by kernel_rfl) af (fun y=>by kernel_rfl) fun a=>by kernel_rfl
noncomputable abbrev atx:bg:=[(121,W4),(122,SD)]
theorem tQ:aW U (bd ah atx):=bc ⟨amV,ajm,⟨⟩⟩
abbrev Ay:Shape:=⟨[ap 0,ew 3 3 .u32,bf 4 3000256],[(3,.row .u32,.same),be 3000256 .u8 4 0],70⟩
abbrev Hu:List aN:=[(.exit 0,⟨[ap 0,ew 3 3 .u32,bf 4 3000256],[(3,.row .u32,.same),be 3000256 .u8 4 0],70⟩)]
noncomputable def A0(y:Ay.J):bJ Ay Hu:=
(lW (y.2.2.1.length:Int) (64:Int)).bind fun a=>
 bif(a !=(56:Int)) then
(cy 1 y.2.2.1 ([(0:Int)]:List Int)).bind fun b=>
 some (.inl ((y.1.1,(),(),()),y.2.1,b,()))
else
 some (.inr ((y.1.1,(),(),()),y.2.1,y.2.2.1,()))
noncomputable def HX:Ay.J->Option (aw Hu):=bn A0
theorem ajU:aT U (an (codeOf Tryz.f69) 1 60) (a6 Ay Hu HX):=bN tQ (by kernel_rfl) af fun y=>by kernel_rfl
abbrev yR:Shape:=⟨[ew 3 3 .u32,bf 4 3000256,(5,.ak (.d (.int .u64))),ad 6],[(3,.row .u32,.same),be 3000256 .u8 4 0],70⟩
abbrev FL:List aN:=[(.exit 2,⟨[ew 3 3 .u32,bf 4 3000256],[(3,.row .u32,.same),be 3000256 .u8 4 0],70⟩)]
noncomputable def G1(y:yR.J):bJ yR FL:=
 bif(decide (y.1.2.2.2.1>=(0:Int))) then
(e9 .u64 y.1.2.2.1 y.1.2.2.2.1).bind fun a=>
(cy 1 y.2.2.1 ([(IntKind.u8.wrap a)]:List Int)).bind fun b=>
 some (.inl (((),(),y.1.2.2.1,(IntKind.i64.wrap (y.1.2.2.2.1-(8:Int))),()),y.2.1,b,()))
else
 some (.inr (((),(),()),y.2.1,y.2.2.1,()))
noncomputable def Gq:yR.J->Option (aw FL):=bn G1
theorem ahI:aT U (an (codeOf Tryz.f69) 1 506) (a6 yR FL Gq):=bN tQ (by kernel_rfl) af fun y=>by kernel_rfl
abbrev yd:Shape:=⟨[ew 3 3 .u32,aH 4 .u8,ad 7],[(3,.row .u32,.same)],70⟩
abbrev EI:List aN:=[(.exit 4,⟨[ew 3 3 .u32],[(3,.row .u32,.same)],70⟩)]
noncomputable def yD(y:yd.J):bJ yd EI:=
 bif(decide (y.1.2.2.1<(y.1.2.1.length:Int))) then
(long 8 y.2.1).bind fun a=>
(bw y.1.2.1 y.1.2.2.1 (IntKind.i64.wrap (y.1.2.2.1+(64:Int)))).bind fun b=>
(f121 ((((a.getD 0 (0:Int)),(a.getD 1 (0:Int)),(a.getD 2 (0:Int)),(a.getD 3 (0:Int)),(a.getD 4 (0:Int)),(a.getD 5 (0:Int)),(a.getD 6 (0:Int)),(a.getD 7 (0:Int)),()),b,()),())).bind fun c=>
(long 8 y.2.1).bind fun d=>
 some (.inl (((),y.1.2.1,(IntKind.i64.wrap (y.1.2.2.1+(64:Int))),()),([((pad (t:=.u32) 8 c.2.1).getD 0 (0:Int)),((pad (t:=.u32) 8 c.2.1).getD 1 (0:Int)),((pad (t:=.u32) 8 c.2.1).getD 2 (0:Int)),((pad (t:=.u32) 8 c.2.1).getD 3 (0:Int)),((pad (t:=.u32) 8 c.2.1).getD 4 (0:Int)),((pad (t:=.u32) 8 c.2.1).getD 5 (0:Int)),((pad (t:=.u32) 8 c.2.1).getD 6 (0:Int)),((pad (t:=.u32) 8 c.2.1).getD 7 (0:Int))]:List Int),()))
else
 some (.inr (((),()),y.2.1,()))
noncomputable def E_:yd.J->Option (aw EI):=bn yD
theorem af8:aT U (an (codeOf Tryz.f69) 1 1018) (a6 yd EI E_):=bN tQ (by kernel_rfl) af fun y=>by kernel_rfl
abbrev xm:Shape:=⟨[aM 8 8 0,(10,.ak (.d (.int .u32))),ad 11,aH 52 .u32,ad 53,ad 54],[bv 5000513 .u8 8 1,aO 8 [.dn,.own 5000513]],70⟩
abbrev Dx:List aN:=[(.exit 8,⟨[aM 8 8 0,aH 52 .u32,ad 53,ad 54],[bv 5000513 .u8 8 1,aO 8 [.dn,.own 5000513]],70⟩)]
noncomputable def DD(y:xm.J):bJ xm Dx:=
 bif(decide (y.1.2.2.1>=(0:Int))) then
(e9 .u32 y.1.2.1 y.1.2.2.1).bind fun a=>
(aP ([48,49,50,51,52,53,54,55,56,57,97,98,99,100,101,102]:F) (ev .u32 a (15:Int))).bind fun b=>
(Ib (((),(b.toNat:Int),()),y.2.1,((),(),()),())).bind fun c=>
 some (.inl (((),y.1.2.1,(IntKind.i64.wrap (y.1.2.2.1-(4:Int))),y.1.2.2.2.1,y.1.2.2.2.2.1,y.1.2.2.2.2.2.1,()),c.2.1,((),(),()),()))
else
 some (.inr (((),y.1.2.2.2.1,y.1.2.2.2.2.1,y.1.2.2.2.2.2.1,()),y.2.1,((),(),()),()))
noncomputable def DB:xm.J->Option (aw Dx):=bn DD
theorem abH:aT U (an (c8 (an (codeOf Tryz.f69) 1 4090)) 8180 1047142) (a6 xm Dx DB):=bN tQ (by kernel_rfl) af fun y=>by kernel_rfl
abbrev yc:Shape:=⟨[aM 8 8 0,aH 52 .u32,ad 53,ad 54],[bv 5000513 .u8 8 1,aO 8 [.dn,.own 5000513]],70⟩
abbrev EH:List aN:=[(.exit 6,⟨[aM 8 8 0],[bv 5000513 .u8 8 1,aO 8 [.dn,.own 5000513]],70⟩)]
noncomputable def pL(y:yc.J):bJ yc EH:=
 bif(decide (y.1.2.2.2.1<y.1.2.2.1)) then
(aP y.1.2.1 y.1.2.2.2.1).bind fun a=>
(DB (((),a,(28:Int),y.1.2.1,y.1.2.2.1,y.1.2.2.2.1,()),y.2.1,((),(),()),())).bind fun b=>
 some (.inl (((),b.1.2.1,b.1.2.2.1,(IntKind.i64.wrap (b.1.2.2.2.1+(1:Int))),()),b.2.1,((),(),()),()))
else
 some (.inr (((),()),y.2.1,((),(),()),()))
noncomputable def E9:yc.J->Option (aw EH):=bn pL
theorem af7:aT U (an (codeOf Tryz.f69) 1 4090) (a6 yc EH E9):=bN tQ (by kernel_rfl) (bb abH af) fun y=>by kernel_rfl
abbrev i69:Shape:=⟨[ap 0],[],70⟩
abbrev Yc:Shape:=⟨[ap 2],[],70⟩
noncomputable def f69(a:i69.J):Option Yc.J:=
(long 8 (List.replicate 8 (0:Int))).bind fun b=>
(if a.1.1.length<=maxLen then some () else none).bind fun c=>
(cy 1 (bytesOf a.1.1) ([(128:Int)]:List Int)).bind fun d=>
(HX ((a.1.1,(),(),()),([(1779033703:Int),(3144134277:Int),(1013904242:Int),(2773480762:Int),(1359893119:Int),(2600822924:Int),(528734635:Int),(1541459225:Int)]:List Int),d,())).bind fun e=>
(Gq (((),(),(IntKind.u64.wrap ((IntKind.u64.wrap (e.1.1.length:Int))*(8:Int))),(56:Int),()),e.2.1,e.2.2.1,())).bind fun f=>
(E_ (((),f.2.2.1,(0:Int),()),f.2.1,())).bind fun g=>
((long 8 g.2.1).bind fun q=>bw q (0:Int) (2:Int)).bind fun h=>
(E9 (((),h,(h.length:Int),(0:Int),()),([]:List Int),((),(),()),())).bind fun i=>
 some (((strOf i.2.1),()),())
noncomputable def ZG:aF:=aK ah Tryz.f69 i69 Yc [] f69
theorem aqf:aE U 69 ZG:=aL tQ Tryz.func69 (by kernel_rfl) (bb ajU (bb ahI (bb af8 (bb af7 af)))) (fun y=>by kernel_rfl) fun a=>by kernel_rfl
def s9:F:=[48,49,50,51,52,53,54,55,56,57,97,98,99,100,101,102]
def jd(k:Nat):UInt8:=s9.getD k 48
theorem H6{k:Nat}(h:k<16):aP s9 (k:Int)=some (jd k):=by
 rw[bQ];unfold jd;rw[List.getD_eq_getElem?_getD,List.getElem?_eq_getElem (by exact h)];rfl
def h6(b:UInt8):F:=[jd (b.toNat/16),jd (b.toNat%16)]
def fF(w:Int):F:=[jd (w.toNat/268435456%16),jd (w.toNat/16777216%16),jd (w.toNat/1048576%16),jd (w.toNat/65536%16),jd (w.toNat/4096%16),jd (w.toNat/256%16),jd (w.toNat/16%16),jd (w.toNat%16)]
def oQ(s:F):F:=fF (ez s).a++fF (ez s).b
theorem xl(s:F):strOf (bytesOf s)=s:=by
 unfold strOf bytesOf;rw[List.map_map];refine List.map_id'' (fun b=>?_) s
 simp
theorem pv(s t:F):bytesOf (s++t)=bytesOf s++bytesOf t:=by unfold bytesOf;rw[List.map_append]
theorem abp(s:F)(h:pn s):f219 ((s,()),())=some ((s.flatMap h6,()),()):=by
 have aB:Fg ((s,(s9,((),((0:Int),())))),(([]:List Int),()))=some (((),()),(bytesOf (s.flatMap h6),())):=by
  have hlen:∀t:F,(t.flatMap h6).length=2*t.length:=by
   intro t;induction t with
   |nil=>rfl
   |cons b r ih=>rw[List.flatMap_cons,List.length_append,ih];simp[h6];omega
  refine fM (g:=yG) (fun i=>((s,(s9,((),((i:Int),())))),(bytesOf ((s.take i).flatMap h6),()))) s.length (fun i hi=>?_) ?_ s.length 0 (by omega)
  ·obtain⟨b,hb⟩:∃b,s[i]? =some b:=⟨s[i],List.getElem?_eq_getElem hi⟩;have au:nL .u8 (b.toNat:Int) 16=some ((b.toNat/16:Nat):Int):=by
    have:=b.toNat_lt;unfold nL;rw[if_neg (by decide),Int.tdiv_eq_ediv_of_nonneg (by omega),IntKind.wrap_u8]
    congr 1;omega
   have hr:lW (b.toNat:Int) 16=some ((b.toNat%16:Nat):Int):=by rw[HH (by omega) (by omega)];simp
   have:=b.toNat_lt;have e1:=H6 (k:=b.toNat/16) (by omega)
   have e2:=H6 (k:=b.toNat%16) (by omega)
   have aq:s.take (i+1)=s.take i++[b]:=by rw[List.take_add_one,hb];rfl
   simp only[yG,bZ hi,cond_true,bQ,hb,Option.bind_some,au,hr,aq];simp only[<-bQ,e1,e2,Option.bind_some];rw[dS (by decide) (by unfold am;rw[js,hlen];simp;omega),bK (by unfold am;omega)]
   simp only[Option.bind_some,List.flatMap_append,pv];rfl
  ·simp only[yG,cX,cond_false,List.take_length]
 have eT:([48,49,50,51,52,53,54,55,56,57,97,98,99,100,101,102]:F)=s9:=rfl;simp only[f219,eT,aB,Option.bind_some,xl]
abbrev qY(w:Int):Prop:=0<=w/\w<4294967296
theorem Rb{w:Int}(h:qY w):h6 (UInt8.ofNat (IntKind.u8.wrap (w.fdiv (2^24))).toNat)++(h6 (UInt8.ofNat (IntKind.u8.wrap (w.fdiv (2^16))).toNat)++(h6 (UInt8.ofNat (IntKind.u8.wrap (w.fdiv (2^8))).toNat)++h6 (UInt8.ofNat (IntKind.u8.wrap w).toNat)))=fF w:=by
 obtain⟨n,rfl⟩:=Int.eq_ofNat_of_zero_le h.1;have hn:n<4294967296:=by have:=h.2;omega
 have e:∀m:Nat,(UInt8.ofNat (IntKind.u8.wrap (m:Int)).toNat).toNat=m%256:=fun m=>by
  rw[IntKind.wrap_u8,show((m:Int)%256).toNat=m%256 by omega];simp
 have f:∀k:Nat,((n:Int).fdiv (2^k))=((n/2^k:Nat):Int):=fun k=>by
  rw[Int.fdiv_eq_ediv_of_nonneg _ (by exact Int.le_of_lt (Int.pow_pos (by decide)))]
  simp
 rw[f,f,f];simp only[h6,fF,e,List.cons_append,List.nil_append,Int.toNat_natCast];rw[show n/2^24%256/16=n/268435456%16 by omega,show n/2^24%256%16=n/16777216%16 by omega,show n/2^16%256/16=n/1048576%16 by omega,show n/2^16%256%16=n/65536%16 by omega,
  show n/2^8%256/16=n/4096%16 by omega,show n/2^8%256%16=n/256%16 by omega,show n%256/16=n/16%16 by omega,show n%256%16=n%16 by omega]
theorem SO(x:Int):qY (IntKind.u32.wrap x):=by rw[IntKind.wrap_u32];constructor<;>omega
theorem VN(s:F):qY (ez s).a/\qY (ez s).b:=by
 have h1:=Gl s;have h2:=yu s;unfold ez;generalize hk:(eh s).length/64=k at h1;cases k with
 |zero=>omega
 |succ k=>exact⟨SO _,SO _⟩
theorem PP(w:Int):(fF w).length=8:=rfl
theorem EW(s:F):(oQ s).length=16:=rfl
theorem ak7(s:F)(h:pn s):f173 ((s,()),())=some ((oQ s,()),()):=by
 have aB:=aht s h;have hw:=VN s;have aA:=abp (strOf ((ez s).list.flatMap fun w=>[IntKind.u8.wrap (w.fdiv (2^24)),IntKind.u8.wrap (w.fdiv (2^16)),IntKind.u8.wrap (w.fdiv (2^8)),IntKind.u8.wrap w])) (by unfold pn;simp[strOf,ci.list])
 have aq:∀q:ci,bw ((strOf (q.list.flatMap fun w=>[IntKind.u8.wrap (w.fdiv (2^24)),IntKind.u8.wrap (w.fdiv (2^16)),IntKind.u8.wrap (w.fdiv (2^8)),IntKind.u8.wrap w])).flatMap h6) 0 16=
   some ((h6 (UInt8.ofNat (IntKind.u8.wrap (q.a.fdiv (2^24))).toNat)++(h6 (UInt8.ofNat (IntKind.u8.wrap (q.a.fdiv (2^16))).toNat)++(h6 (UInt8.ofNat (IntKind.u8.wrap (q.a.fdiv (2^8))).toNat)++h6 (UInt8.ofNat (IntKind.u8.wrap q.a).toNat))))++
    (h6 (UInt8.ofNat (IntKind.u8.wrap (q.b.fdiv (2^24))).toNat)++(h6 (UInt8.ofNat (IntKind.u8.wrap (q.b.fdiv (2^16))).toNat)++(h6 (UInt8.ofNat (IntKind.u8.wrap (q.b.fdiv (2^8))).toNat)++h6 (UInt8.ofNat (IntKind.u8.wrap q.b).toNat))))):=fun q=>rfl
 simp only[f173,aB,aA,Option.bind_some,aq,Rb hw.1,Rb hw.2];rfl
theorem alZ{m:Nat}(h:m<4294967296):ev .u32 (m:Int) 15=((m%16:Nat):Int):=by
 unfold ev;rw[BitVec.toNat_and,Eb h,show(BitVec.ofInt IntKind.u32.bits 15).toNat=15 from rfl,show(15:Nat)=2^4-1 from rfl,Nat.and_two_pow_sub_one_eq_mod,oo (by omega) (by omega)]
theorem agS(w:Int){i:Nat}(h:i<8):(fF w)[i]? =some (jd (w.toNat/2^(28-4*i)%16)):=by
 have:i=0\/i=1\/i=2\/i=3\/i=4\/i=5\/i=6\/i=7:=by omega
 rcases this with rfl|rfl|rfl|rfl|rfl|rfl|rfl|rfl<;>simp[fF]
theorem PO(w:Int)(hw:qY w)(r0:List Int)(hr:r0.length<=100)(p q u):DB (((),(w,((28:Int),(p,(q,(u,())))))),(r0,(((),((),())),())))=some (((),(p,(q,(u,())))),(r0++bytesOf (fF w),(((),((),())),()))):=by
 have:=fM (g:=DD) (fun i=>(((),(w,((28-4*(i:Int)),(p,(q,(u,())))))),(r0++bytesOf ((fF w).take i),(((),((),())),())))) 8 (b:=(((),(p,(q,(u,())))),(r0++bytesOf (fF w),(((),((),())),())))) (fun i hi=>?_) rfl 8 0 rfl
 ·rw[show(28:Int)-4*((0:Nat):Int)=28 from rfl,List.take_zero] at this
  have e:r0++bytesOf []=r0:=List.append_nil r0;rw[e] at this;exact this
 ·obtain⟨n,rfl⟩:=Int.eq_ofNat_of_zero_le hw.1;have hn:n<4294967296:=by have:=hw.2;omega
  have hl:decide ((28-4*(i:Int))>=0)=true:=by simp;omega
  have hs:e9 .u32 (n:Int) (28-4*(i:Int))=some ((n/2^(28-4*i):Nat):Int):=by
   rw[show(28-4*(i:Int))=((28-4*i:Nat):Int) by omega]
   unfold e9;rw[if_neg (by omega),Int.toNat_natCast,show IntKind.u32.bits=32 from rfl,Nat.min_eq_left (by omega),Int.fdiv_eq_ediv_of_nonneg _ (by exact Int.le_of_lt (Int.pow_pos (by decide)))]
   simp
  have hlt:n/2^(28-4*i)<4294967296:=Nat.lt_of_le_of_lt (Nat.div_le_self _ _) hn;have ha:=alZ hlt;have hx:=H6 (k:=n/2^(28-4*i)%16) (Nat.mod_lt _ (by decide))
  have Z:IntKind.i64.wrap (28-4*(i:Int)-4)=28-4*((i+1:Nat):Int):=by rw[ee (by omega) (by omega)];omega
  have aq:(fF (n:Int)).take (i+1)=(fF (n:Int)).take i++[jd (n/2^(28-4*i)%16)]:=by
   rw[List.take_add_one,agS _ hi,Int.toNat_natCast];rfl
  have eT:([48,49,50,51,52,53,54,55,56,57,97,98,99,100,101,102]:F)=s9:=rfl;simp only[DD,hl,cond_true,hs,Option.bind_some,ha,eT,hx,Ib,Z,aq,pv];rw[dS (by decide) (by unfold am;simp[js,PP];omega)]
  simp only[Option.bind_some,List.append_assoc];rfl
theorem ajt(s:F)(h:pn s):f69 ((s,()),())=some ((oQ s,()),()):=by
 have dY:=Gl s;have hlen:=yu s;have hz:=uW (s.length+1);have jJ:=PK s;have hm:(if s.length<=maxLen then some () else none)=some ():=if_pos (by unfold maxLen;omega)
 have ha:cy 1 (bytesOf s) ([128]:List Int)=some (bytesOf s++[128]):=dS (by decide) (by unfold am;rw[js];simp;omega)
 have h8:long 8 (List.replicate 8 (0:Int))=some (List.replicate 8 (0:Int)):=rfl;have aB:∀r0:List Int,HX ((s,((),((),()))),(r0,(bytesOf s++[128],())))=some ((s,((),((),()))),(r0,(jb s,()))):=by
  intro r0;have qN:∀i:Nat,(bytesOf s++[128]++List.replicate i (0:Int)).length=s.length+1+i:=fun i=>by simp[js];omega
  have:=fM (g:=A0) (fun i=>((s,((),((),()))),(r0,(bytesOf s++[128]++List.replicate i (0:Int),())))) (j7 (s.length+1)) (b:=((s,((),((),()))),(r0,(jb s,())))) (fun i hi=>?_) ?_ (j7 (s.length+1)) 0 (by omega)
  ·rw[List.replicate_zero,List.append_nil] at this;exact this
  ·have hne:((((s.length+1+i)%64:Nat):Int) !=56)=true:=by have:=P6 (s.length+1) i hi;rw[bne_iff_ne];omega
   simp only[A0,qN,Bl,Option.bind_some,hne,cond_true];rw[dS (by decide) (by unfold am;rw[qN];simp;omega)]
   simp only[Option.bind_some,P0]
  ·have hne:((((s.length+1+j7 (s.length+1))%64:Nat):Int) !=56)=false:=by have:=FG (s.length+1);rw[this];rfl
   simp only[A0,qN,Bl,Option.bind_some,hne,cond_false];rfl
 have aA:∀(n:Int) (r0:List Int),Gq (((),((),(n,((56:Int),())))),(r0,(jb s,())))=some (((),((),())),(r0,(jb s++j1 n,()))):=by
  intro n r0;have:=fM (g:=G1) (fun i=>(((),((),(n,((56-8*(i:Int)),())))),(r0,(jb s++(j1 n).take i,())))) 8 (b:=(((),((),())),(r0,(jb s++j1 n,())))) (fun i hi=>?_) rfl 8 0 rfl
  ·rw[show(56:Int)-8*((0:Nat):Int)=56 from rfl,List.take_zero,List.append_nil] at this;exact this
  ·have hl:decide ((56-8*(i:Int))>=0)=true:=by simp;omega
   have hw:(56-8*(i:Int))=((8*(7-i):Nat):Int):=by omega
   have hs:IntKind.i64.wrap (56-8*(i:Int)-8)=56-8*((i+1:Nat):Int):=by rw[ee (by omega) (by omega)];omega
   have hx:e9 .u64 n (56-8*(i:Int))=some (n.fdiv (2^(8*(7-i)))):=by rw[hw];exact ajy (by omega)
   simp only[G1,hl,cond_true,hx,Option.bind_some,hs];rw[dS (by decide) (by unfold am;simp[E2,j1];have:=uW (s.length+1);omega)]
   simp only[Option.bind_some,List.append_assoc,OK n hi]
 have hp:∀q:ci,long 8 q.list=some q.list:=fun q=>rfl
 have bC:E_ (((),(eh s,((0:Int),()))),(xf.list,()))=some (((),()),((ez s).list,())):=by
  refine fM (g:=yD) (fun k=>(((),(eh s,(((64*k:Nat):Int),()))),((tq (eh s) k).list,()))) ((eh s).length/64) (fun k hk=>?_) ?_ ((eh s).length/64) 0 (by omega)
  ·have hk2:64*k+64<=(eh s).length:=by omega
   have hl:decide (((64*k:Nat):Int)<((eh s).length:Int))=true:=by simp;omega
   have hw:IntKind.i64.wrap (((64*k:Nat):Int)+64)=((64*k+64:Nat):Int):=by rw[ee (by omega) (by omega)];omega
   have hs:bw (eh s) ((64*k:Nat):Int) ((64*k+64:Nat):Int)=some (qx (eh s) k):=pJ (by omega) hk2
   have hb:=aci (tq (eh s) k) (qx (eh s) k) (Rk hk2 jJ);have au:∀q:ci,((q.list.getD 0 0,(q.list.getD 1 0,(q.list.getD 2 0,(q.list.getD 3 0,(q.list.getD 4 0,(q.list.getD 5 0,(q.list.getD 6 0,(q.list.getD 7 0,())))))))):Int×Int×Int×Int×Int×Int×Int×Int×Unit)=(q.a,(q.b,(q.c,(q.d,(q.e,(q.f,(q.g,(q.h,())))))))):=fun q=>rfl
   simp only[yD,hl,cond_true,hw,hs,Option.bind_some,hp,au,hb];rfl
  ·have hl:decide (((64*((eh s).length/64):Nat):Int)<((eh s).length:Int))=false:=by simp;omega
   simp only[yD,hl,cond_false];rfl
 have hw:=VN s;have cO:∀a b:Int,qY a->qY b->E9 (((),(([a,b]:List Int),((([a,b]:List Int).length:Int),((0:Int),())))),(([]:List Int),(((),((),())),())))=some (((),()),(bytesOf (fF a++fF b),(((),((),())),()))):=by
  intro a b ha hb;have e1:=PO a ha [] (by simp) ([a,b]:List Int) ((2:Int)) (0:Int)
  have e2:=PO b hb (bytesOf (fF a)) (by rw[js,PP];decide) ([a,b]:List Int) ((2:Int)) (1:Int)
  have dw:aP ([a,b]:List Int) 0=some a:=rfl;have eD:aP ([a,b]:List Int) 1=some b:=rfl;have fq:pL (((),(([a,b]:List Int),((2:Int),((0:Int),())))),(([]:List Int),(((),((),())),())))=some (.inl (((),(([a,b]:List Int),((2:Int),((1:Int),())))),(bytesOf (fF a),(((),((),())),())))):=by
   have:decide ((0:Int)<2)=true:=rfl;simp only[pL,this,cond_true,dw,Option.bind_some,e1];rfl
  have s1:pL (((),(([a,b]:List Int),((2:Int),((1:Int),())))),(bytesOf (fF a),(((),((),())),())))=some (.inl (((),(([a,b]:List Int),((2:Int),((2:Int),())))),(bytesOf (fF a++fF b),(((),((),())),())))):=by
   have:decide ((1:Int)<2)=true:=rfl;simp only[pL,this,cond_true,eD,Option.bind_some,e2,pv];rfl
  have s2:pL (((),(([a,b]:List Int),((2:Int),((2:Int),())))),(bytesOf (fF a++fF b),(((),((),())),())))=some (.inr (((),()),(bytesOf (fF a++fF b),(((),((),())),())))):=by
   have:decide ((2:Int)<2)=false:=rfl;simp only[pL,this,cond_false]
  exact(du fq).trans ((du s1).trans (ca s2))
 have hn:IntKind.u64.wrap (IntKind.u64.wrap (s.length:Int)*8)=(s.length:Int)*8:=by rw[IntKind.wrap_u64,IntKind.wrap_u64];omega
 have eT:([1779033703,3144134277,1013904242,2773480762,1359893119,2600822924,528734635,1541459225]:List Int)=xf.list:=rfl;have hz2:((long 8 (ez s).list).bind fun q=>bw q (0:Int) (2:Int))=some [(ez s).a,(ez s).b]:=rfl
 have anI:jb s++j1 ((s.length:Int)*8)=eh s:=rfl;simp only[f69,h8,hm,ha,Option.bind_some,eT,aB,hn,aA,anI,bC,hz2,cO _ _ hw.1 hw.2,xl];rfl
abbrev S_:Shape:=⟨[aM 0 500000 0,ap 1],[bv 37000001 .u8 500000 1,aO 500000 [.dn,.own 37000001]],19⟩
abbrev SZ:Shape:=⟨[aM 0 500000 0,ad 4,(5,.ak (.BS))],[bv 37000001 .u8 500000 1,aO 500000 [.dn,.own 37000001]],19⟩
noncomputable def lT(a:S_.J):Option SZ.J:=
(cy 1 a.2.1 (bytesOf a.1.2.1)).bind fun b=>
 some (((),(a.1.2.1.length:Int),(),()),b,((),(),()),())
noncomputable def BI:aF:=aK ah Tryz.f63 S_ SZ [0] lT
theorem Ii:aE U 63 BI:=aL g0 Tryz.func63 (by kernel_rfl) af (fun y=>by kernel_rfl) fun a=>by kernel_rfl
end Go.Proofs
namespace Go.Proofs
open Go.Shelf
def Tryz.aa7:Go.Shelf.Ren:=⟨fun|171=>64|243=>113|246=>165|283=>205|284=>206|285=>207|286=>208|129=>240|317=>239|318=>241|319=>242|320=>243|337=>269|338=>270|n=>n,fun|3=>3|9=>9|2=>2|4=>4|171=>224|0=>0|53=>155|37=>52|5=>5|173=>227|212=>244|51=>153|20=>20|213=>245|46=>203|232=>268|233=>269|n=>n,fun|17=>1|18=>3|19=>4|n=>n⟩
theorem Tryz.agN:Go.Proofs.LaysM.n171 U Tryz.aa7:={
 mixed:=by kernel_rfl
 f129:=Tryz.func240.trans (congrArg some (by kernel_rfl))
 f171:=Tryz.func64.trans (congrArg some (by kernel_rfl))
 f243:=Tryz.func113.trans (congrArg some (by kernel_rfl))
 f246:=Tryz.func165.trans (congrArg some (by kernel_rfl))
 f283:=Tryz.func205.trans (congrArg some (by kernel_rfl))
 f284:=Tryz.func206.trans (congrArg some (by kernel_rfl))
 f285:=Tryz.func207.trans (congrArg some (by kernel_rfl))
 f286:=Tryz.func208.trans (congrArg some (by kernel_rfl))
 f317:=Tryz.func239.trans (congrArg some (by kernel_rfl))
 f318:=Tryz.func241.trans (congrArg some (by kernel_rfl))
 f319:=Tryz.func242.trans (congrArg some (by kernel_rfl))
 f320:=Tryz.func243.trans (congrArg some (by kernel_rfl))
 f337:=Tryz.func269.trans (congrArg some (by kernel_rfl))
 f338:=Tryz.func270.trans (congrArg some (by kernel_rfl))
 t0:=Tryz.underlying0
 a0:=Tryz.isAgg0
 z0:=Tryz.sizeOf0
 v0:=Tryz.zeroValue0
 t2:=Tryz.underlying2
 a2:=Tryz.isAgg2
 z2:=Tryz.sizeOf2
 v2:=Tryz.zeroValue2
 t3:=Tryz.underlying3
 a3:=Tryz.isAgg3
 z3:=Tryz.sizeOf3
 v3:=Tryz.zeroValue3
 t4:=Tryz.underlying4
 a4:=Tryz.isAgg4
 z4:=Tryz.sizeOf4
 v4:=Tryz.zeroValue4
 t5:=Tryz.underlying5
 a5:=Tryz.isAgg5
 z5:=Tryz.sizeOf5
 v5:=Tryz.zeroValue5
 t9:=Tryz.underlying9
 a9:=Tryz.isAgg9
 z9:=Tryz.sizeOf9
 v9:=Tryz.zeroValue9
 t20:=Tryz.underlying20
 a20:=Tryz.isAgg20
 z20:=Tryz.sizeOf20
 v20:=Tryz.zeroValue20
 t37:=Tryz.underlying52
 a37:=Tryz.isAgg52
 z37:=Tryz.sizeOf52
 v37:=Tryz.zeroValue52
 t46:=Tryz.underlying203
 a46:=Tryz.isAgg203
 z46:=Tryz.sizeOf203
 v46:=Tryz.zeroValue203
 t51:=Tryz.underlying153
 a51:=Tryz.isAgg153
 z51:=Tryz.sizeOf153
 v51:=Tryz.zeroValue153
 t53:=Tryz.underlying155
 a53:=Tryz.isAgg155
 z53:=Tryz.sizeOf155
 v53:=Tryz.zeroValue155
 t171:=Tryz.underlying224
 a171:=Tryz.isAgg224
 z171:=Tryz.sizeOf224
 v171:=Tryz.zeroValue224
 t173:=Tryz.underlying227
 a173:=Tryz.isAgg227
 z173:=Tryz.sizeOf227
 v173:=Tryz.zeroValue227
 t212:=Tryz.underlying244
 a212:=Tryz.isAgg244
 z212:=Tryz.sizeOf244
 v212:=Tryz.zeroValue244
 t213:=Tryz.underlying245
 a213:=Tryz.isAgg245
 z213:=Tryz.sizeOf245
 t232:=Tryz.underlying268
 a232:=Tryz.isAgg268
 z232:=Tryz.sizeOf268
 v232:=Tryz.zeroValue268
 t233:=Tryz.underlying269
 a233:=Tryz.isAgg269
 z233:=Tryz.sizeOf269
 v233:=Tryz.zeroValue269
 g17:=by kernel_rfl
 g18:=by kernel_rfl
 g19:=by kernel_rfl
 i0:=by kernel_rfl
 i2:=by kernel_rfl
 i3:=by kernel_rfl
 i4:=by kernel_rfl
 i5:=by kernel_rfl
 i9:=by kernel_rfl
 i20:=by kernel_rfl
 i37:=by kernel_rfl
 i46:=by kernel_rfl
 i51:=by kernel_rfl
 i53:=by kernel_rfl
 i171:=by kernel_rfl
 i173:=by kernel_rfl
 i212:=by kernel_rfl
 i232:=by kernel_rfl
 i233:=by kernel_rfl
 m17:=by kernel_rfl
 m18:=by kernel_rfl
 m19:=by kernel_rfl}
open Go.RowKit Go.Sort Go.Lib in
theorem Tryz.strconv_Itoa(n:Int)(h0:-9223372036854775808<=n)(h1:n<=9223372036854775807)(w:World)(anF:Lib.TabIs U w "internal/strconv.uint64pow10" .u64 Lib.pow10Tab):
  Calls U 64 #[.int .i64 n] w fun e w'=>e=.returned (.string ⟨(Lib.itoa n).toArray⟩)/\∃k os,w'=grow (w.drewN k) os:=Any.strconv_Itoa Tryz.agN n h0 h1 w anF
def Tryz.abX:Go.Shelf.Ren:=⟨fun|153=>214|152=>252|226=>253|227=>254|228=>255|137=>274|119=>275|224=>246|225=>245|217=>244|266=>271|n=>n,fun|9=>9|3=>3|4=>4|5=>5|21=>21|117=>253|116=>252|0=>0|46=>203|124=>264|n=>n,fun|n=>n⟩
theorem Tryz.aiI:Go.Proofs.Lays.n153 U Tryz.abX:={
 mixed:=by kernel_rfl
 f119:=Tryz.func275.trans (congrArg some (by kernel_rfl))
 f137:=Tryz.func274.trans (congrArg some (by kernel_rfl))
 f152:=Tryz.func252.trans (congrArg some (by kernel_rfl))
 f153:=Tryz.func214.trans (congrArg some (by kernel_rfl))
 f217:=Tryz.func244.trans (congrArg some (by kernel_rfl))
 f224:=Tryz.func246.trans (congrArg some (by kernel_rfl))
 f225:=Tryz.func245.trans (congrArg some (by kernel_rfl))
 f226:=Tryz.func253.trans (congrArg some (by kernel_rfl))
 f227:=Tryz.func254.trans (congrArg some (by kernel_rfl))
 f228:=Tryz.func255.trans (congrArg some (by kernel_rfl))
 f266:=Tryz.func271.trans (congrArg some (by kernel_rfl))
 t0:=Tryz.underlying0
 a0:=Tryz.isAgg0
 z0:=Tryz.sizeOf0
 v0:=Tryz.zeroValue0
 t3:=Tryz.underlying3
 a3:=Tryz.isAgg3
 z3:=Tryz.sizeOf3
 v3:=Tryz.zeroValue3
 t4:=Tryz.underlying4
 a4:=Tryz.isAgg4
 z4:=Tryz.sizeOf4
 v4:=Tryz.zeroValue4
 t5:=Tryz.underlying5
 a5:=Tryz.isAgg5
 z5:=Tryz.sizeOf5
 v5:=Tryz.zeroValue5
 t9:=Tryz.underlying9
 a9:=Tryz.isAgg9
 z9:=Tryz.sizeOf9
 v9:=Tryz.zeroValue9
 t21:=Tryz.underlying21
 a21:=Tryz.isAgg21
 z21:=Tryz.sizeOf21
 v21:=Tryz.zeroValue21
 t46:=Tryz.underlying203
 a46:=Tryz.isAgg203
 z46:=Tryz.sizeOf203
 v46:=Tryz.zeroValue203
 t116:=Tryz.underlying252
 a116:=Tryz.isAgg252
 z116:=Tryz.sizeOf252
 t117:=Tryz.underlying253
 a117:=Tryz.isAgg253
 z117:=Tryz.sizeOf253
 v117:=Tryz.zeroValue253
 t124:=Tryz.underlying264
 a124:=Tryz.isAgg264
 z124:=Tryz.sizeOf264
 v124:=Tryz.zeroValue264}
end Go.Proofs
namespace Go.Proofs
open Go.Jk
noncomputable def B7:aF:=Fo
theorem IA:aE U 64 B7:=aiL (fun _ _=>enters_of Tryz.func64 (by kernel_rfl) rfl _ _) fun n h0 h1 w hw=>Tryz.strconv_Itoa n h0 h1 w (afN (by kernel_rfl) (show nK w 1 .u64 Lib.pow10Tab from hw.2))
noncomputable abbrev apn:bg:=[(63,BI),(64,B7),(105,vV)]
theorem Xy:aW U (bd ah apn):=bc ⟨Ii,IA,z105,⟨⟩⟩
abbrev yr:Shape:=⟨[aM 3 3 0,aH 10 .entry,ad 11,ad 12],[bv 5000193 .u8 3 1,aO 3 [.dn,.own 5000193]],64⟩
abbrev EU:List aN:=[(.exit 0,⟨[aM 3 3 0],[bv 5000193 .u8 3 1,aO 3 [.dn,.own 5000193]],64⟩)]
noncomputable def yL(y:yr.J):bJ yr EU:=
 bif(decide (y.1.2.2.2.1<y.1.2.2.1)) then
(aP y.1.2.1 y.1.2.2.2.1).bind fun a=>
(if-9223372036854775808<=a.mode/\a.mode<=9223372036854775807 then some () else none).bind fun b=>
 bif(a.kind==(1:Int)) then
(bY ([100,105,114,32]:F) (Lib.itoa a.mode)).bind fun c=>
(bY c ([32]:F)).bind fun d=>
(bY d a.path).bind fun e=>
(bY e ([10]:F)).bind fun f=>
(lT (((),f,()),y.2.1,((),(),()),())).bind fun g=>
 some (.inl (((),y.1.2.1,y.1.2.2.1,(IntKind.i64.wrap (y.1.2.2.2.1+(1:Int))),()),g.2.1,((),(),()),()))
else
 bif(a.kind==(2:Int)) then
(bY ([102,105,108,101,32]:F) (Lib.itoa a.mode)).bind fun h=>
(bY h ([32]:F)).bind fun i=>
(bY i a.path).bind fun j=>
(bY j ([32]:F)).bind fun k=>
(if-9223372036854775808<=(a.text.length:Int)/\(a.text.length:Int)<=9223372036854775807 then some () else none).bind fun l=>
(bY k (Lib.itoa (a.text.length:Int))).bind fun m=>
(bY m ([10]:F)).bind fun n=>
(lT (((),n,()),y.2.1,((),(),()),())).bind fun B=>
(bY a.text ([10]:F)).bind fun p=>
(lT (((),p,()),B.2.1,((),(),()),())).bind fun q=>
 some (.inl (((),y.1.2.1,y.1.2.2.1,(IntKind.i64.wrap (y.1.2.2.2.1+(1:Int))),()),q.2.1,((),(),()),()))
else
 bif(a.kind==(3:Int)) then
(bY ([108,105,110,107,32]:F) a.path).bind fun r=>
(bY r ([32]:F)).bind fun s=>
(bY s a.text).bind fun t=>
(bY t ([10]:F)).bind fun u=>
(lT (((),u,()),y.2.1,((),(),()),())).bind fun v=>
 some (.inl (((),y.1.2.1,y.1.2.2.1,(IntKind.i64.wrap (y.1.2.2.2.1+(1:Int))),()),v.2.1,((),(),()),()))
else
 some (.inl (((),y.1.2.1,y.1.2.2.1,(IntKind.i64.wrap (y.1.2.2.2.1+(1:Int))),()),y.2.1,((),(),()),()))
else
 some (.inr (((),()),y.2.1,((),(),()),()))
noncomputable def Fl:yr.J->Option (aw EU):=bn yL
theorem agu:aT U (an (codeOf Tryz.f120) 1 122) (a6 yr EU Fl):=bN Xy (by kernel_rfl) af fun y=>by kernel_rfl
abbrev i120:Shape:=⟨[aH 0 .entry],[],64⟩
abbrev Va:Shape:=⟨[ap 2],[],64⟩
noncomputable def f120(a:i120.J):Option Va.J:=
(f105 ((a.1.1,()),())).bind fun b=>
 bif(!b.1.1) then
 some ((([]:F),()),())
else
(Fl (((),a.1.1,(a.1.1.length:Int),(0:Int),()),([]:List Int),((),(),()),())).bind fun c=>
 some (((strOf c.2.1),()),())
noncomputable def W5:aF:=aK ah Tryz.f120 i120 Va [] f120
theorem amW:aE U 120 W5:=aL Xy Tryz.func120 (by kernel_rfl) (bb agu af) (fun y=>by kernel_rfl) fun a=>by kernel_rfl
abbrev i83:Shape:=⟨[ad 0],[],28⟩
abbrev mO:Shape:=⟨[ap 2],[],28⟩
noncomputable def Jp(aZ:i83.J->Option mO.J):aF:=aK ah Tryz.f83 i83 mO [] aZ
noncomputable abbrev att(aZ:i83.J->Option mO.J):bg:=[(83,(Jp aZ))]
theorem auf(aZ:i83.J->Option mO.J)(fs:aE U 83 (Jp aZ)):aW U (bd ah (att aZ)):=bc ⟨fs,⟨⟩⟩
noncomputable def oY(aZ:i83.J->Option mO.J)(a:i83.J):Option mO.J:=
 bif(decide (a.1.1<((-9223372036854775807):Int))) then
 some ((([45,57,50,50,51,51,55,50,48,51,54,56,53,52,55,55,53,56,48,56]:F),()),())
else
 bif(decide (a.1.1<(0:Int))) then
(aZ (((IntKind.i64.wrap (0-a.1.1)),()),())).bind fun b=>
(bY ([45]:F) b.1.1).bind fun c=>
 some ((c,()),())
else
 bif(decide (a.1.1<(10:Int))) then
 some (((strOf ([(IntKind.u8.wrap (IntKind.i64.wrap ((48:Int)+a.1.1)))]:List Int)),()),())
else
(nL .i64 a.1.1 (10:Int)).bind fun d=>
(aZ ((d,()),())).bind fun e=>
(lW a.1.1 (10:Int)).bind fun f=>
(bY e.1.1 (strOf ([(IntKind.u8.wrap (IntKind.i64.wrap ((48:Int)+f)))]:List Int))).bind fun g=>
 some ((g,()),())
theorem al7(aZ:i83.J->Option mO.J)(fs:aE U 83 (Jp aZ)):aE U 83 (aK ah Tryz.f83 i83 mO [] (oY aZ)):=aL (auf aZ fs) Tryz.func83 (by kernel_rfl) af (fun y=>by kernel_rfl) fun a=>by kernel_rfl
noncomputable def f83:i83.J->Option mO.J:=sM oY By
noncomputable def CV:aF:=aK ah Tryz.f83 i83 mO [] f83
theorem JY:aE U 83 CV:=ajF (ff:=oY) al7 By
noncomputable abbrev aow:bg:=[(83,CV)]
theorem apF:aW U (bd ah aow):=bc ⟨JY,⟨⟩⟩
abbrev i226:Shape:=⟨[b_ 0 [ae,br,br,ae]],[],45⟩
abbrev T_:Shape:=⟨[ap 2],[],45⟩
noncomputable def f226(a:i226.J):Option T_.J:=
 bif(a.1.1.2.1==(1:Int)) then
(f83 ((a.1.1.2.2.1,()),())).bind fun b=>
(bY ([100,105,114,32]:F) b.1.1).bind fun c=>
(bY c ([32]:F)).bind fun d=>
(bY d a.1.1.1).bind fun e=>
(bY e ([10]:F)).bind fun f=>
 some ((f,()),())
else
 bif(a.1.1.2.1==(3:Int)) then
(bY ([108,105,110,107,32]:F) a.1.1.1).bind fun g=>
(bY g ([32]:F)).bind fun h=>
(bY h a.1.1.2.2.2.1).bind fun i=>
(bY i ([10]:F)).bind fun j=>
 some ((j,()),())
else
(f83 ((a.1.1.2.2.1,()),())).bind fun k=>
(bY ([102,105,108,101,32]:F) k.1.1).bind fun l=>
(bY l ([32]:F)).bind fun m=>
(bY m a.1.1.1).bind fun n=>
(bY n ([32]:F)).bind fun B=>
(f83 (((a.1.1.2.2.2.1.length:Int),()),())).bind fun p=>
(bY B p.1.1).bind fun q=>
(bY q ([10]:F)).bind fun r=>
(bY r a.1.1.2.2.2.1).bind fun s=>
(bY s ([10]:F)).bind fun t=>
 some ((t,()),())
noncomputable def Wc:aF:=aK ah Tryz.f226 i226 T_ [] f226
theorem z226:aE U 226 Wc:=aL apF Tryz.func226 (by kernel_rfl) af (fun y=>by kernel_rfl) fun a=>by kernel_rfl
noncomputable abbrev aoO:bg:=[(226,Wc)]
theorem Xk:aW U (bd ah aoO):=bc ⟨z226,⟨⟩⟩
abbrev y7:Shape:=⟨[aH 0 .entry,ap 3,ad 4],[],19⟩
abbrev FZ:List aN:=[(.exit 0,⟨[ap 3],[],19⟩)]
noncomputable def zM(y:y7.J):bJ y7 FZ:=
 bif(decide (y.1.2.2.1<(y.1.1.length:Int))) then
(aP y.1.1 y.1.2.2.1).bind fun a=>
(f226 (((a.path,a.kind,a.mode,a.text,()),()),())).bind fun b=>
(bY y.1.2.1 b.1.1).bind fun c=>
 some (.inl ((y.1.1,c,(IntKind.i64.wrap (y.1.2.2.1+(1:Int))),()),()))
else
 some (.inr ((y.1.2.1,()),()))
noncomputable def GB:y7.J->Option (aw FZ):=bn zM
theorem ah7:aT U (an (codeOf Tryz.f181) 1 58) (a6 y7 FZ GB):=bN Xk (by kernel_rfl) af fun y=>by kernel_rfl
abbrev i181:Shape:=⟨[aH 0 .entry],[],19⟩
abbrev UC:Shape:=⟨[ap 2],[],19⟩
noncomputable def f181(a:i181.J):Option UC.J:=
(GB ((a.1.1,([]:F),(0:Int),()),())).bind fun b=>
 some ((b.1.1,()),())
noncomputable def Jz:aF:=aK ah Tryz.f181 i181 UC [] f181
theorem TA:aE U 181 Jz:=aL Xk Tryz.func181 (by kernel_rfl) (bb ah7 af) (fun y=>by kernel_rfl) fun a=>by kernel_rfl
theorem P3(m:Nat)(h:m<10):strOf ([(IntKind.u8.wrap (IntKind.i64.wrap ((48:Int)+(m:Int))))]:List Int)=[UInt8.ofNat (48+m)]:=by
 have:IntKind.u8.wrap (IntKind.i64.wrap ((48:Int)+(m:Int)))=((48+m:Nat):Int):=by
  rw[ee (by omega) (by omega),IntKind.wrap_u8];omega
 rw[this];rfl
theorem Rj:∀n:Nat,n<10^20->(Lib.decDigits n).length<=20:=by
 have:∀(k n:Nat),n<10^(k+1)->(Lib.decDigits n).length<=k+1:=by
  intro k;induction k with
  |zero=>intro n h;rw[Lib.decDigits,dif_pos (by omega)];simp
  |succ k ih=>
   intro n h;rw[Lib.decDigits];split
   ·simp
   ·have:=ih (n/10) (by rw[Nat.pow_succ] at h;omega)
    simp;omega
 intro n h;exact this 19 n h
theorem pK(n:Nat):Lib.itoa (n:Int)=Lib.decDigits n:=by unfold Lib.itoa;rw[if_neg (by omega),Int.toNat_natCast]
theorem nl(n:Nat)(h:n<=4611686018427387904):(Lib.itoa (n:Int)).length<=20:=by rw[pK];exact Rj n (by omega)
theorem afA:∀(m:Nat),m<=4611686018427387903->∀f:Nat,m<f->sM oY f (((m:Int),()),())=some ((Lib.decDigits m,()),()):=by
 intro m;induction m using Nat.strongRecOn with
 |_ m ih=>
  intro hm f hf;obtain⟨f,rfl⟩:∃au6,f=au6+1:=⟨f-1,by omega⟩
  show oY (sM oY f) (((m:Int),()),())=_;have h1:decide ((m:Int)< -9223372036854775807)=false:=decide_eq_false (by omega)
  have h2:decide ((m:Int)<0)=false:=decide_eq_false (by omega)
  have h3:decide ((m:Int)<10)=decide (m<10):=by congr 1;apply propext;omega
  rw[Lib.decDigits];by_cases h:m<10
  ·rw[dif_pos h];simp only[oY,h1,h2,h3,h,decide_true,cond_true,cond_false,P3 m h]
  ·have au:nL .i64 (m:Int) 10=some ((m/10:Nat):Int):=by exact ajG rfl (by omega) (by omega) (by decide)
   have hr:lW (m:Int) 10=some ((m%10:Nat):Int):=by exact HH (by omega) (by decide)
   rw[dif_neg h];simp only[oY,h1,h2,h3,h,decide_false,cond_false,au,hr,Option.bind_some,ih (m/10) (by omega) (by omega) f (by omega),P3 (m%10) (by omega)]
   rw[ef (by have:=Rj (m/10) (by omega);simp;omega)]
   rfl
theorem FK(m:Nat)(h:m<=4611686018427387903):f83 (((m:Int),()),())=some ((Lib.itoa (m:Int),()),()):=by
 rw[pK];exact afA m h By (by unfold By;omega)
def d_(e:aC):F:=bif e.kind==1 then [100,105,114,32]++Lib.itoa e.mode++[32]++e.path++[10] else bif e.kind==3 then [108,105,110,107,32]++e.path++[32]++e.text++[10]
 else [102,105,108,101,32]++Lib.itoa e.mode++[32]++e.path++[32]++Lib.itoa (e.text.length:Int)++[10]++e.text++[10]
def dd(t:List aC):F:=t.flatMap d_
abbrev oi(e:aC):Prop:=0<=e.mode/\e.mode<=7
theorem GU{e:aC}(h:oi e):(Lib.itoa e.mode).length<=20:=by
 obtain⟨n,hn⟩:=Int.eq_ofNat_of_zero_le h.1;rw[hn];exact nl n (by have:=h.2;omega)
theorem Eg{e:aC}(h:oi e)(hb:lu e):(d_ e).length<=4194404:=by
 have h1:=GU h;have h2:=nl e.text.length (by have:=hb.2;omega)
 have h3:=hb.1;have ay:=hb.2;unfold d_;cases e.kind==1<;>cases e.kind==3<;>simp<;>omega
theorem afy(e:aC)(h:oi e)(hb:lu e):f226 (((e.path,(e.kind,(e.mode,(e.text,())))),()),())=some ((d_ e,()),()):=by
 have h1:=GU h;have h2:=nl e.text.length (by have:=hb.2;omega)
 have h3:=hb.1;have ay:=hb.2;obtain⟨n,hn⟩:=Int.eq_ofNat_of_zero_le h.1;have d1:=FK n (by have:=h.2;omega)
 rw[<-hn] at d1;have d2:=FK e.text.length (by omega)
 unfold d_;simp only[f226];cases e.kind==1 with
 |true=>
  simp only[cond_true,d1,Option.bind_some];repeat(rw[ef (by simp;omega),Option.bind_some])
 |false=>
  cases e.kind==3 with
  |true=>
   simp only[cond_true,cond_false,Option.bind_some];repeat(rw[ef (by simp;omega),Option.bind_some])
  |false=>
   simp only[cond_false,d1,d2,Option.bind_some];repeat(rw[ef (by simp;omega),Option.bind_some])
theorem uA{ax:Type}{f:ax->F}{n:Nat}:∀{xs:List ax},(∀x,x∈xs->(f x).length<=n)->(xs.flatMap f).length<=xs.length*n:=by
 intro xs;induction xs with
 |nil=>intro _;simp
 |cons x r ih=>
  intro h;have h1:=h x List.mem_cons_self;have h2:=ih fun y hy=>h y (List.mem_cons_of_mem _ hy)
  rw[List.flatMap_cons,List.length_append,List.length_cons,Nat.add_mul];omega
theorem nj{ax:Type}(f:ax->F){xs:List ax}{i:Nat}{x:ax}(h:xs[i]? =some x):(xs.take (i+1)).flatMap f=(xs.take i).flatMap f++f x:=by
 rw[List.take_add_one,h,List.flatMap_append];simp
theorem xy{t:List aC}(hm:∀e,e∈t->oi e)(hb:is t)(hl:t.length<=16):(dd t).length<=67110464:=by
 have h1:=uA (f:=d_) (xs:=t) (n:=4194404) fun e he=>Eg (hm e he) (hb.2 e he)
 unfold dd;exact Nat.le_trans h1 (by omega)
theorem uv{ax:Type}{xs:List ax}{i:Nat}{x:ax}(h:x∈xs.take i):x∈xs:=List.mem_of_mem_take h
theorem MB{t:List aC}(hm:∀e,e∈t->oi e)(hb:is t)(hl:t.length<=16)(i:Nat):((t.take i).flatMap d_).length<=67110464:=
 xy (t:=t.take i) (fun e he=>hm e (uv he)) ⟨Nat.le_trans (List.take_sublist i t).length_le hb.1,fun e he=>hb.2 e (uv he)⟩ (Nat.le_trans (List.take_sublist i t).length_le hl)
theorem DW(t:List aC)(hm:∀e,e∈t->oi e)(hb:is t)(hl:t.length<=16):f181 ((t,()),())=some ((dd t,()),()):=by
 have aB:GB ((t,(([]:F),((0:Int),()))),())=some ((dd t,()),()):=by
  refine fM (g:=zM) (fun i=>((t,((t.take i).flatMap d_,((i:Int),()))),())) t.length (fun i hi=>?_) ?_ t.length 0 (by omega)
  ·obtain⟨e,he⟩:∃e,t[i]? =some e:=⟨t[i],List.getElem?_eq_getElem hi⟩;have eG:=List.mem_of_getElem? he;have:=MB hm hb hl i;have ia:=Eg (hm e eG) (hb.2 e eG);simp only[zM,bZ hi,cond_true,bQ,he,Option.bind_some,afy e (hm e eG) (hb.2 e eG)];rw[ef (by omega),bK (by unfold am;omega),nj d_ he]
   rfl
  ·simp only[zM,cX,cond_false,List.take_length];rfl
 simp only[f181,aB,Option.bind_some]
theorem rN{n a b:Int}(h:within n a b=true):a<=n/\n<=b:=by
 unfold within at h;simpa using h
theorem FB{e:aC}(h:eK e=true):oi e:=by
 unfold eK at h;simp only[Bool.and_eq_true] at h;have h:=h.2;cases aB:(e.kind==1) with
 |true=>
  rw[aB] at h;simp only[cond_true,Bool.and_eq_true] at h;exact rN h.1
 |false=>
  cases aA:(e.kind==2) with
  |true=>
   rw[aB,aA] at h;simp only[cond_true,cond_false,Bool.and_eq_true] at h;exact rN h.1
  |false=>
   rw[aB,aA] at h;cases bC:(e.kind==3) with
   |true=>
    rw[bC] at h;simp only[cond_true,cond_false,Bool.and_eq_true,beq_iff_eq] at h;exact⟨by rw[h.1];decide,by rw[h.1];decide⟩
   |false=>rw[bC] at h;cases h
theorem uj{e:aC}(h:eK e=true):e.kind=1\/e.kind=2\/e.kind=3:=by
 unfold eK at h;simp only[Bool.and_eq_true] at h;have h:=h.2;cases aB:(e.kind==1) with
 |true=>exact .inl (eq_of_beq aB)
 |false=>
  cases aA:(e.kind==2) with
  |true=>exact .inr (.inl (eq_of_beq aA))
  |false=>
   cases bC:(e.kind==3) with
   |true=>exact .inr (.inr (eq_of_beq bC))
   |false=>rw[aB,aA,bC] at h;cases h
theorem ug{t:List aC}(h:dJ t=true):∀e,e∈t->eK e=true:=by
 intro e he;unfold dJ at h;simp only[Bool.and_eq_true] at h;obtain⟨i,hi⟩:=List.getElem?_of_mem he;have:=yN t 0 h.1.1 i e hi;unfold iG at this;simp only[Bool.and_eq_true] at this;exact this.1
theorem p4(xs:List Int)(s:F)(h:am (xs.length+s.length)):lT (((),(s,())),(xs,(((),((),())),())))=some (((),((s.length:Int),((),()))),(xs++bytesOf s,(((),((),())),()))):=by
 simp only[lT];rw[dS (by decide) (by rw[js];exact h)]
 rfl
theorem R7{n:Int}(h:-9223372036854775808<=n/\n<=9223372036854775807):(if-9223372036854775808<=n/\n<=9223372036854775807 then some () else none)=some ():=if_pos h
theorem abr(t:List aC)(hb:is t):f120 ((t,()),())=some (((bif dJ t then dd t else []),()),()):=by
 have h0:=py ((t,()),()) hb;simp only[f120,h0,Option.bind_some];cases fy:dJ t with
 |false=>rfl
 |true=>
  have hl:=jt fy;have VH:=ug fy;have hm:∀e,e∈t->oi e:=fun e he=>FB (VH e he)
  have aB:Fl (((),(t,((t.length:Int),((0:Int),())))),(([]:List Int),(((),((),())),())))=some (((),()),(bytesOf (dd t),(((),((),())),()))):=by
   refine fM (g:=yL) (fun i=>(((),(t,((t.length:Int),((i:Int),())))),(bytesOf ((t.take i).flatMap d_),(((),((),())),())))) t.length (fun i hi=>?_) ?_ t.length 0 (by omega)
   ·obtain⟨e,he⟩:∃e,t[i]? =some e:=⟨t[i],List.getElem?_eq_getElem hi⟩;have eG:=List.mem_of_getElem? he;have jc:=MB hm hb hl i;have ia:=Eg (hm e eG) (hb.2 e eG);have h1:=GU (hm e eG);have h2:=nl e.text.length (by have:=(hb.2 e eG).2;omega)
    have h3:=(hb.2 e eG).1;have ay:=(hb.2 e eG).2;have awy:=hm e eG;have i1:=R7 (n:=e.mode) ⟨by omega,by omega⟩
    have i2:=R7 (n:=(e.text.length:Int)) ⟨by omega,by omega⟩
    rw[nj d_ he,pv];simp only[yL,bZ hi,cond_true,bQ,he,Option.bind_some,i1,i2,bK (i:=i) (by unfold am;omega)]
    generalize List.flatMap d_ (List.take i t)=A at jc ⊢;rcases uj (VH e eG) with hk|hk|hk
    ·have e1:d_ e=[100,105,114,32]++Lib.itoa e.mode++[32]++e.path++[10]:=by unfold d_;rw[hk];rfl
     rw[hk,show((1:Int)==1)=true from rfl,cond_true,e1]
     repeat(rw[ef (by simp;omega),Option.bind_some])
     rw[p4 _ _ (by unfold am;rw[js];simp;omega)]
     rfl
    ·have e1:d_ e=[102,105,108,101,32]++Lib.itoa e.mode++[32]++e.path++[32]++Lib.itoa (e.text.length:Int)++[10]++(e.text++[10]):=by unfold d_;rw[hk];simp
     rw[hk,show((2:Int)==1)=false from rfl,show((2:Int)==2)=true from rfl,cond_false,cond_true,e1]
     repeat(rw[ef (by simp;omega),Option.bind_some])
     rw[p4 _ _ (by unfold am;rw[js];simp;omega),Option.bind_some]
     rw[ef (by simp;omega),Option.bind_some]
     rw[p4 _ _ (by unfold am;simp[js];omega),pv _ (e.text++[10]),<-List.append_assoc]
     rfl
    ·have e1:d_ e=[108,105,110,107,32]++e.path++[32]++e.text++[10]:=by unfold d_;rw[hk];rfl
     rw[hk,show((3:Int)==1)=false from rfl,show((3:Int)==2)=false from rfl,show((3:Int)==3)=true from rfl,cond_false,cond_false,cond_true,e1]
     repeat(rw[ef (by simp;omega),Option.bind_some])
     rw[p4 _ _ (by unfold am;rw[js];simp;omega)]
     rfl
   ·simp only[yL,cX,cond_false,List.take_length];rfl
  simp only[Bool.not_true,cond_false,cond_true,aB,Option.bind_some,xl]
noncomputable abbrev apo:bg:=[(102,vW)]
theorem apZ:aW U (bd ah apo):=bc ⟨BN,⟨⟩⟩
abbrev i119:Shape:=⟨[b_ 0 [ae,br,ae]],[],34⟩
abbrev Vb:Shape:=⟨[ap 2],[],34⟩
noncomputable def f119(a:i119.J):Option Vb.J:=
(f102 (((a.1.1.1,a.1.1.2.1,a.1.1.2.2.1,()),()),())).bind fun b=>
 bif(!b.1.1) then
 some ((([]:F),()),())
else
 bif(a.1.1.2.1==(1:Int)) then
(bY a.1.1.1 ([61]:F)).bind fun c=>
(bY c a.1.1.2.2.1).bind fun d=>
 some ((d,()),())
else
 bif(a.1.1.2.1==(2:Int)) then
(bY a.1.1.1 ([62,61]:F)).bind fun e=>
(bY e a.1.1.2.2.1).bind fun f=>
 some ((f,()),())
else
 bif(a.1.1.2.1==(3:Int)) then
(bY a.1.1.1 ([60]:F)).bind fun g=>
(bY g a.1.1.2.2.1).bind fun h=>
 some ((h,()),())
else
 some ((a.1.1.1,()),())
noncomputable def W6:aF:=aK ah Tryz.f119 i119 Vb [] f119
theorem z119:aE U 119 W6:=aL apZ Tryz.func119 (by kernel_rfl) af (fun y=>by kernel_rfl) fun a=>by kernel_rfl
abbrev i225:Shape:=⟨[ad 0],[],10⟩
abbrev T':Shape:=⟨[ap 2],[],10⟩
noncomputable def f225(a:i225.J):Option T'.J:=
 bif(a.1.1==(1:Int)) then
 some ((([61]:F),()),())
else
 bif(a.1.1==(2:Int)) then
 some ((([62,61]:F),()),())
else
 bif(a.1.1==(3:Int)) then
 some ((([60]:F),()),())
else
 some ((([]:F),()),())
noncomputable def Js:aF:=aK ah Tryz.f225 i225 T' [] f225
theorem Tw:aE U 225 Js:=aL g0 Tryz.func225 (by kernel_rfl) af (fun y=>by kernel_rfl) fun a=>by kernel_rfl
noncomputable abbrev aoy:bg:=[(225,Js)]
theorem apG:aW U (bd ah aoy):=bc ⟨Tw,⟨⟩⟩
abbrev i218:Shape:=⟨[b_ 0 [ae,br,ae]],[],12⟩
abbrev Uc:Shape:=⟨[ap 2],[],12⟩
noncomputable def f218(a:i218.J):Option Uc.J:=
(f225 ((a.1.1.2.1,()),())).bind fun b=>
(bY a.1.1.1 b.1.1).bind fun c=>
(bY c a.1.1.2.2.1).bind fun d=>
 some ((d,()),())
noncomputable def Jt:aF:=aK ah Tryz.f218 i218 Uc [] f218
theorem z218:aE U 218 Jt:=aL apG Tryz.func218 (by kernel_rfl) af (fun y=>by kernel_rfl) fun a=>by kernel_rfl
noncomputable abbrev aoS:bg:=[(181,Jz),(218,Jt)]
theorem Xl:aW U (bd ah aoS):=bc ⟨TA,z218,⟨⟩⟩
abbrev y9:Shape:=⟨[aM 1 1 0,ap 3,ad 4],[aO 1 [ae,ae,b6 .need,b6 .entry]],36⟩
abbrev F1:List aN:=[(.exit 0,⟨[aM 1 1 0,ap 3],[aO 1 [ae,ae,b6 .need,b6 .entry]],36⟩)]
noncomputable def zN(y:y9.J):bJ y9 F1:=
 bif(decide (y.1.2.2.1<(y.2.1.2.2.1.length:Int))) then
(bY y.1.2.1 ([110,101,101,100,32]:F)).bind fun a=>
(aP y.2.1.2.2.1 y.1.2.2.1).bind fun b=>
(f218 (((b.name,b.kind,b.aU,()),()),())).bind fun c=>
(bY a c.1.1).bind fun d=>
(bY d ([10]:F)).bind fun e=>
 some (.inl (((),e,(IntKind.i64.wrap (y.1.2.2.1+(1:Int))),()),(y.2.1.1,y.2.1.2.1,y.2.1.2.2.1,y.2.1.2.2.2.1,()),()))
else
 some (.inr (((),y.1.2.1,()),(y.2.1.1,y.2.1.2.1,y.2.1.2.2.1,y.2.1.2.2.2.1,()),()))
noncomputable def GC:y9.J->Option (aw F1):=bn zN
theorem ah9:aT U (an (codeOf Tryz.f172) 1 58) (a6 y9 F1 GC):=bN Xl (by kernel_rfl) af fun y=>by kernel_rfl
abbrev i172:Shape:=⟨[b_ 0 [ae,ae,b6 .need,b6 .entry]],[],36⟩
abbrev UF:Shape:=⟨[ap 2],[],36⟩
noncomputable def f172(a:i172.J):Option UF.J:=
(bY ([112,97,99,107,32]:F) a.1.1.1).bind fun b=>
(bY b ([32]:F)).bind fun c=>
(bY c a.1.1.2.1).bind fun d=>
(bY d ([10]:F)).bind fun e=>
(GC (((),e,(0:Int),()),(a.1.1.1,a.1.1.2.1,a.1.1.2.2.1,a.1.1.2.2.2.1,()),())).bind fun f=>
(bY f.1.2.1 ([10]:F)).bind fun g=>
(f181 ((f.2.1.2.2.2.1,()),())).bind fun h=>
(bY g h.1.1).bind fun i=>
 some ((i,()),())
noncomputable def WC:aF:=aK ah Tryz.f172 i172 UF [] f172
theorem amH:aE U 172 WC:=aL Xl Tryz.func172 (by kernel_rfl) (bb ah9 af) (fun y=>by kernel_rfl) fun a=>by kernel_rfl
noncomputable abbrev apl:bg:=[(172,WC),(173,WB)]
theorem apY:aW U (bd ah apl):=bc ⟨amH,z173,⟨⟩⟩
abbrev i123:Shape:=⟨[b_ 0 [ae,ae,b6 .need,b6 .entry]],[],12⟩
abbrev U_:Shape:=⟨[ap 2],[],12⟩
noncomputable def f123(a:i123.J):Option U_.J:=
(f172 (((a.1.1.1,a.1.1.2.1,a.1.1.2.2.1,a.1.1.2.2.2.1,()),()),())).bind fun b=>
(f173 ((b.1.1,()),())).bind fun c=>
(bY ([115,117,109,32]:F) c.1.1).bind fun d=>
(bY d ([10]:F)).bind fun e=>
(bY e b.1.1).bind fun f=>
 some ((f,()),())
noncomputable def JH:aF:=aK ah Tryz.f123 i123 U_ [] f123
theorem TG:aE U 123 JH:=aL apY Tryz.func123 (by kernel_rfl) af (fun y=>by kernel_rfl) fun a=>by kernel_rfl
noncomputable abbrev aty:bg:=[(63,BI),(119,W6),(120,W5)]
theorem _b:aW U (bd ah aty):=bc ⟨Ii,z119,amW,⟨⟩⟩
abbrev yS:Shape:=⟨[aM 1 1 0,aM 3 3 0,aH 16 .need,ad 17,ad 18],[aO 1 [ae,ae,b6 .need,b6 .entry],bv 5000193 .u8 3 1,aO 3 [.dn,.own 5000193]],34⟩
abbrev FM:List aN:=[(.exit 0,⟨[aM 1 1 0,aM 3 3 0],[aO 1 [ae,ae,b6 .need,b6 .entry],bv 5000193 .u8 3 1,aO 3 [.dn,.own 5000193]],34⟩)]
noncomputable def zD(y:yS.J):bJ yS FM:=
 bif(decide (y.1.2.2.2.2.1<y.1.2.2.2.1)) then
(aP y.1.2.2.1 y.1.2.2.2.2.1).bind fun a=>
(f119 (((a.name,a.kind,a.aU,()),()),())).bind fun b=>
(bY ([110,101,101,100,32]:F) b.1.1).bind fun c=>
(bY c ([10]:F)).bind fun d=>
(lT (((),d,()),y.2.2.1,((),(),()),())).bind fun e=>
 some (.inl (((),(),y.1.2.2.1,y.1.2.2.2.1,(IntKind.i64.wrap (y.1.2.2.2.2.1+(1:Int))),()),(y.2.1.1,y.2.1.2.1,y.2.1.2.2.1,y.2.1.2.2.2.1,()),e.2.1,((),(),()),()))
else
 some (.inr (((),(),()),(y.2.1.1,y.2.1.2.1,y.2.1.2.2.1,y.2.1.2.2.2.1,()),y.2.2.1,((),(),()),()))
noncomputable def Gr:yS.J->Option (aw FM):=bn zD
theorem ahJ:aT U (an (codeOf Tryz.f68) 1 122) (a6 yS FM Gr):=bN _b (by kernel_rfl) af fun y=>by kernel_rfl
abbrev i68:Shape:=⟨[b_ 0 [ae,ae,b6 .need,b6 .entry]],[],34⟩
abbrev Yd:Shape:=⟨[ap 2],[],34⟩
noncomputable def f68(a:i68.J):Option Yd.J:=
(bY ([112,97,99,107,32]:F) a.1.1.1).bind fun b=>
(bY b ([32]:F)).bind fun c=>
(bY c a.1.1.2.1).bind fun d=>
(bY d ([10]:F)).bind fun e=>
(lT (((),e,()),([]:List Int),((),(),()),())).bind fun f=>
(Gr (((),(),a.1.1.2.2.1,(a.1.1.2.2.1.length:Int),(0:Int),()),(a.1.1.1,a.1.1.2.1,a.1.1.2.2.1,a.1.1.2.2.2.1,()),f.2.1,((),(),()),())).bind fun g=>
(f120 ((g.2.1.2.2.2.1,()),())).bind fun h=>
(bY ([10]:F) h.1.1).bind fun i=>
(lT (((),i,()),g.2.2.1,((),(),()),())).bind fun j=>
 some (((strOf j.2.1),()),())
noncomputable def ZH:aF:=aK ah Tryz.f68 i68 Yd [] f68
theorem aqg:aE U 68 ZH:=aL _b Tryz.func68 (by kernel_rfl) (bb ahJ af) (fun y=>by kernel_rfl) fun a=>by kernel_rfl
noncomputable abbrev atS:bg:=[(55,CY),(68,ZH),(69,ZG)]
theorem aun:aW U (bd ah atS):=bc ⟨J0,aqg,aqf,⟨⟩⟩
abbrev i36:Shape:=⟨[b_ 0 [ae,ae,b6 .need,b6 .entry]],[],15⟩
abbrev Yv:Shape:=⟨[ap 2],[],15⟩
noncomputable def f36(a:i36.J):Option Yv.J:=
(f55 (((a.1.1.1,a.1.1.2.1,a.1.1.2.2.1,a.1.1.2.2.2.1,()),()),())).bind fun b=>
 bif(!b.1.1) then
 some ((([]:F),()),())
else
(f68 (((a.1.1.1,a.1.1.2.1,a.1.1.2.2.1,a.1.1.2.2.2.1,()),()),())).bind fun c=>
(f69 ((c.1.1,()),())).bind fun d=>
(bY ([115,117,109,32]:F) d.1.1).bind fun e=>
(bY e ([10]:F)).bind fun f=>
(bY f c.1.1).bind fun g=>
 some ((g,()),())
noncomputable def Ls:aF:=aK ah Tryz.f36 i36 Yv [] f36
theorem XK:aE U 36 Ls:=aL aun Tryz.func36 (by kernel_rfl) af (fun y=>by kernel_rfl) fun a=>by kernel_rfl
noncomputable abbrev atw:bg:=[(83,CV),(123,JH)]
theorem _a:aW U (bd ah atw):=bc ⟨JY,TG,⟨⟩⟩
abbrev Ax:Shape:=⟨[aM 1 1 0,ap 3,ad 4],[aO 1 [b6 .pack]],28⟩
abbrev Ht:List aN:=[(.exit 0,⟨[ap 3],[],28⟩)]
noncomputable def AZ(y:Ax.J):bJ Ax Ht:=
 bif(decide (y.1.2.2.1<(y.2.1.1.length:Int))) then
(aP y.2.1.1 y.1.2.2.1).bind fun a=>
(f123 (((a.name,a.aU,a.bj,a.bL,()),()),())).bind fun b=>
(f83 (((b.1.1.length:Int),()),())).bind fun c=>
(bY y.1.2.1 c.1.1).bind fun d=>
(bY d ([10]:F)).bind fun e=>
(bY e b.1.1).bind fun f=>
 some (.inl (((),f,(IntKind.i64.wrap (y.1.2.2.1+(1:Int))),()),(y.2.1.1,()),()))
else
 some (.inr ((y.1.2.1,()),()))
noncomputable def HW:Ax.J->Option (aw Ht):=bn AZ
theorem ajT:aT U (an (codeOf Tryz.f70) 1 58) (a6 Ax Ht HW):=bN _a (by kernel_rfl) af fun y=>by kernel_rfl
abbrev i70:Shape:=⟨[b_ 0 [b6 .pack]],[],28⟩
abbrev Yb:Shape:=⟨[ap 2],[],28⟩
noncomputable def f70(a:i70.J):Option Yb.J:=
(HW (((),([]:F),(0:Int),()),(a.1.1.1,()),())).bind fun b=>
 some ((b.1.1,()),())
noncomputable def CX:aF:=aK ah Tryz.f70 i70 Yb [] f70
theorem z70:aE U 70 CX:=aL _a Tryz.func70 (by kernel_rfl) (bb ajT af) (fun y=>by kernel_rfl) fun a=>by kernel_rfl
noncomputable abbrev atQ:bg:=[(30,C1),(70,CX)]
theorem aum:aW U (bd ah atQ):=bc ⟨J3,z70,⟨⟩⟩
abbrev i37:Shape:=⟨[b_ 0 [b6 .pack]],[],8⟩
abbrev Yu:Shape:=⟨[ap 2],[],8⟩
noncomputable def f37(a:i37.J):Option Yu.J:=
(f30 (((a.1.1.1,()),()),())).bind fun b=>
 bif(!b.1.1) then
 some ((([]:F),()),())
else
(f70 (((a.1.1.1,()),()),())).bind fun c=>
 some ((c.1.1,()),())
noncomputable def ath:aF:=aK ah Tryz.f37 i37 Yu [] f37
theorem z37:aE U 37 ath:=aL aum Tryz.func37 (by kernel_rfl) af (fun y=>by kernel_rfl) fun a=>by kernel_rfl
def dB(k:Int):F:=bif k==1 then [61] else bif k==2 then [62,61] else bif k==3 then [60] else []
theorem Oh(k:Int):(dB k).length<=2:=by unfold dB;cases k==1<;>cases k==2<;>cases k==3<;>decide
def cK(n:bB):F:=n.name++dB n.kind++n.aU
theorem O7(k:Int):f225 ((k,()),())=some ((dB k,()),()):=by
 simp only[f225,dB];cases k==1<;>cases k==2<;>cases k==3<;>rfl
theorem E1{n:bB}(hb:wR n):(cK n).length<=4194306:=by
 have:=Oh n.kind;have h1:=hb.1;have h2:=hb.2;unfold cK;simp;omega
theorem P8(n:bB)(hb:wR n):f218 (((n.name,(n.kind,(n.aU,()))),()),())=some ((cK n,()),()):=by
 have:=Oh n.kind;have h1:=hb.1;have h2:=hb.2;have arO:=O7 n.kind;simp only[f218,arO,Option.bind_some];rw[ef (by omega),Option.bind_some,ef (by simp;omega)]
 rfl
theorem acQ{n:bB}(h:dv n=true)(h1:(n.kind==1)=false)(h2:(n.kind==2)=false)(h3:(n.kind==3)=false):n.aU=[]:=by
 unfold dv at h;simp only[Bool.and_eq_true,Bool.or_eq_true] at h;rcases h.2 with h|h
 ·exact eq_of_beq h.2
 ·have:=rN h.1;simp at h1 h2 h3;omega
theorem adR(n:bB)(hb:wR n)(fy:dv n=true):f119 (((n.name,(n.kind,(n.aU,()))),()),())=some ((cK n,()),()):=by
 have h0:=xG (((n.name,(n.kind,(n.aU,()))),()),()) hb.1 hb.2;have h0:f102 (((n.name,(n.kind,(n.aU,()))),()),())=some ((dv n,()),()):=h0;have h1:=hb.1;have h2:=hb.2;simp only[f119,h0,fy,Option.bind_some,Bool.not_true,cond_false,cK,dB];cases aB:(n.kind==1) with
 |true=>
  simp only[cond_true];rw[ef (by simp;omega),Option.bind_some,ef (by simp;omega)]
  rfl
 |false=>
  cases aA:(n.kind==2) with
  |true=>
   simp only[cond_true,cond_false];rw[ef (by simp;omega),Option.bind_some,ef (by simp;omega)]
   rfl
  |false=>
   cases bC:(n.kind==3) with
   |true=>
    simp only[cond_true,cond_false];rw[ef (by simp;omega),Option.bind_some,ef (by simp;omega)]
    rfl
   |false=>simp only[cond_false,acQ fy aB aA bC,List.append_nil]
def cJ(n:bB):F:=[110,101,101,100,32]++cK n++[10]
theorem aeH{n:bB}(hb:wR n):(cJ n).length<=4194312:=by
 have:=E1 hb;unfold cJ;simp;omega
def il(p:ba):F:=[112,97,99,107,32]++p.name++[32]++p.aU++[10]
def di(p:ba):F:=il p++p.bj.flatMap cJ++[10]++dd p.bL
def bM(p:ba):F:=[115,117,109,32]++oQ (di p)++[10]++di p
def fo(s:F):F:=Lib.itoa (s.length:Int)++[10]++s
def dG(ps:List ba):F:=ps.flatMap fun p=>fo (bM p)
theorem ng{p:ba}(h:cu p=true):iA p.name=true/\dZ p.aU=true/\(∀n,n∈p.bj->dv n=true)/\p.bj.length<=6/\gQ [] (p.name::p.bj.map (·.name))=false/\dJ p.bL=true:=by
 unfold cu at h;simp only[Bool.and_eq_true] at h;obtain⟨⟨⟨h1,h2⟩,h3⟩,ay⟩:=h;unfold pW at h3;simp only[Bool.and_eq_true,decide_eq_true_eq,List.all_eq_true,Bool.not_eq_true'] at h3;exact⟨h1,h2,h3.1.1,h3.1.2,h3.2,ay⟩
theorem rE{t:List aC}(h:dJ t=true):∀e,e∈t->oi e:=fun e he=>FB (ug h e he)
theorem uc{ns:List bB}(hb:tc ns)(hl:ns.length<=6)(i:Nat):((ns.take i).flatMap cJ).length<=25165872:=by
 have h1:=uA (f:=cJ) (xs:=ns.take i) (n:=4194312) fun n hn=>aeH (hb.2 n (uv hn))
 have h2:=(List.take_sublist i ns).length_le;exact Nat.le_trans h1 (by omega)
theorem EC{p:ba}(hb:ka p)(hk:cu p=true):(di p).length<=100663296:=by
 obtain⟨_,_,_,cc,_,aq⟩:=ng hk;have h1:=uc hb.2.2.1 cc p.bj.length;rw[List.take_length] at h1;have h2:=xy (rE aq) hb.2.2.2 (jt aq);have h3:=hb.1;have ay:=hb.2.1;unfold di il;generalize p.bj.flatMap cJ=A at h1 ⊢;generalize dd p.bL=bm at h2 ⊢;simp;omega
theorem PJ{p:ba}(hb:ka p)(hk:cu p=true):(bM p).length<=100663400:=by
 have:=EC hb hk;unfold bM;generalize di p=bm at this ⊢;simp[EW];omega
theorem afv(p:ba)(hb:ka p)(hk:cu p=true):f172 (((p.name,(p.aU,(p.bj,(p.bL,())))),()),())=some ((di p,()),()):=by
 obtain⟨_,_,hn,cc,_,aq⟩:=ng hk;have h3:=hb.1;have ay:=hb.2.1;have C':=DW p.bL (rE aq) hb.2.2.2 (jt aq);have asa:(il p).length<=4194320:=by unfold il;simp;omega
 have aB:GC (((),(il p,((0:Int),()))),((p.name,(p.aU,(p.bj,(p.bL,())))),()))=some (((),(il p++p.bj.flatMap cJ,())),((p.name,(p.aU,(p.bj,(p.bL,())))),())):=by
  have:=fM (g:=zN) (fun i=>(((),(il p++(p.bj.take i).flatMap cJ,((i:Int),()))),((p.name,(p.aU,(p.bj,(p.bL,())))),()))) p.bj.length (b:=(((),(il p++p.bj.flatMap cJ,())),((p.name,(p.aU,(p.bj,(p.bL,())))),()))) (fun i hi=>?_) ?_ p.bj.length 0 (by omega)
  ·rw[List.take_zero,List.flatMap_nil,List.append_nil] at this;exact this
  ·obtain⟨n,he⟩:∃n,p.bj[i]? =some n:=⟨p.bj[i],List.getElem?_eq_getElem hi⟩;have eG:=List.mem_of_getElem? he;have jc:=uc hb.2.2.1 cc i;have ia:=E1 (hb.2.2.1.2 n eG);simp only[zN,bZ hi,cond_true,bQ,he,Option.bind_some,P8 n (hb.2.2.1.2 n eG),nj cJ he,bK (i:=i) (by unfold am;omega)]
   generalize List.flatMap cJ (List.take i p.bj)=A at jc ⊢;rw[ef (by simp;omega),Option.bind_some,ef (by simp;omega),Option.bind_some,ef (by simp;omega),Option.bind_some]
   simp only[cJ,List.append_assoc]
  ·simp only[zN,cX,cond_false,List.take_length]
 have jc:=uc hb.2.2.1 cc p.bj.length;rw[List.take_length] at jc;have h2:=xy (rE aq) hb.2.2.2 (jt aq);have bU:il p=[112,97,99,107,32]++p.name++[32]++p.aU++[10]:=rfl;simp only[f172];repeat(rw[ef (by simp;omega),Option.bind_some])
 rw[<-bU,aB];simp only[Option.bind_some,di];generalize p.bj.flatMap cJ=A at jc ⊢;rw[ef (by simp;omega),Option.bind_some,C',Option.bind_some]
 generalize dd p.bL=bm at h2 ⊢;rw[ef (by simp;omega)]
 rfl
theorem FI(p:ba)(hb:ka p)(hk:cu p=true):f123 (((p.name,(p.aU,(p.bj,(p.bL,())))),()),())=some ((bM p,()),()):=by
 have hl:=EC hb hk;have h1:=ak7 (di p) (by unfold pn;omega)
 have hs:=EW (di p);simp only[f123,afv p hb hk,h1,Option.bind_some,bM];generalize oQ (di p)=S at hs ⊢;generalize di p=bm at hl ⊢;rw[ef (by simp;omega),Option.bind_some,ef (by simp;omega),Option.bind_some,ef (by simp;omega)]
 rfl
theorem ack(p:ba)(hb:ka p)(hk:cu p=true):f68 (((p.name,(p.aU,(p.bj,(p.bL,())))),()),())=some ((di p,()),()):=by
 obtain⟨_,_,hn,cc,_,aq⟩:=ng hk;have h3:=hb.1;have ay:=hb.2.1;have C':=abr p.bL hb.2.2.2;rw[aq] at C';have asa:(il p).length<=4194320:=by unfold il;simp;omega
 have aB:Gr (((),((),(p.bj,((p.bj.length:Int),((0:Int),()))))),((p.name,(p.aU,(p.bj,(p.bL,())))),(bytesOf (il p),(((),((),())),()))))=some (((),((),())),((p.name,(p.aU,(p.bj,(p.bL,())))),(bytesOf (il p++p.bj.flatMap cJ),(((),((),())),())))):=by
  have:=fM (g:=zD) (fun i=>(((),((),(p.bj,((p.bj.length:Int),((i:Int),()))))),((p.name,(p.aU,(p.bj,(p.bL,())))),(bytesOf (il p++(p.bj.take i).flatMap cJ),(((),((),())),()))))) p.bj.length (b:=(((),((),())),((p.name,(p.aU,(p.bj,(p.bL,())))),(bytesOf (il p++p.bj.flatMap cJ),(((),((),())),()))))) (fun i hi=>?_) ?_ p.bj.length 0 (by omega)
  ·rw[List.take_zero,List.flatMap_nil,List.append_nil] at this;exact this
  ·obtain⟨n,he⟩:∃n,p.bj[i]? =some n:=⟨p.bj[i],List.getElem?_eq_getElem hi⟩;have eG:=List.mem_of_getElem? he;have jc:=uc hb.2.2.1 cc i;have ia:=E1 (hb.2.2.1.2 n eG);simp only[zD,bZ hi,cond_true,bQ,he,Option.bind_some,adR n (hb.2.2.1.2 n eG) (hn n eG),nj cJ he,bK (i:=i) (by unfold am;omega)]
   generalize List.flatMap cJ (List.take i p.bj)=A at jc ⊢;rw[ef (by simp;omega),Option.bind_some,ef (by simp;omega),Option.bind_some,p4 _ _ (by unfold am;rw[js];simp;omega),Option.bind_some,<-List.append_assoc,pv (il p++A)]
   rfl
  ·simp only[zD,cX,cond_false,List.take_length]
 have jc:=uc hb.2.2.1 cc p.bj.length;rw[List.take_length] at jc;have h2:=xy (rE aq) hb.2.2.2 (jt aq);have bU:il p=[112,97,99,107,32]++p.name++[32]++p.aU++[10]:=rfl;simp only[f68];repeat(rw[ef (by simp;omega),Option.bind_some])
 rw[<-bU,p4 _ _ (by unfold am;simp;omega),Option.bind_some]
 simp only[List.nil_append,aB,Option.bind_some,C',cond_true,di];generalize p.bj.flatMap cJ=A at jc ⊢;generalize dd p.bL=bm at h2 ⊢;rw[ef (by simp;omega),Option.bind_some,p4 _ _ (by unfold am;rw[js];simp;omega),Option.bind_some]
 rw[<-pv,xl,List.append_assoc _ [10] bm]
theorem Nr(p:ba)(hb:ka p):f36 (((p.name,(p.aU,(p.bj,(p.bL,())))),()),())=some ((bif cu p then bM p else [],()),()):=by
 have h0:=xF (((p.name,(p.aU,(p.bj,(p.bL,())))),()),()) hb;have h0:f55 (((p.name,(p.aU,(p.bj,(p.bL,())))),()),())=some ((cu p,()),()):=h0;simp only[f36,h0,Option.bind_some];cases hk:cu p with
 |false=>rfl
 |true=>
  have hl:=EC hb hk;have h1:=ajt (di p) (by unfold pn;omega)
  have hs:=EW (di p);simp only[Bool.not_true,cond_false,cond_true,ack p hb hk,h1,Option.bind_some,bM];generalize oQ (di p)=S at hs ⊢;generalize di p=bm at hl ⊢;rw[ef (by simp;omega),Option.bind_some,ef (by simp;omega),Option.bind_some,ef (by simp;omega)]
  rfl
theorem ad3{p:ba}(hb:ka p)(hk:cu p=true):(fo (bM p)).length<=100663500:=by
 have h1:=PJ hb hk;have h2:=nl (bM p).length (by omega)
 unfold fo;simp;omega
theorem aap{ps:List ba}(hb:ir ps)(hk:∀p,p∈ps->cu p=true)(i:Nat):((ps.take i).flatMap fun p=>fo (bM p)).length<=211106660352000:=by
 have h1:=uA (f:=fun p=>fo (bM p)) (xs:=ps.take i) (n:=100663500) fun p hp=>ad3 (hb.2 p (uv hp)) (hk p (uv hp))
 have h2:=(List.take_sublist i ps).length_le;have h3:ps.length<=2097152:=hb.1;have ay:(ps.take i).length*100663500<=2097152*100663500:=Nat.mul_le_mul_right _ (by omega)
 omega
theorem P7(ps:List ba)(hb:ir ps)(hk:∀p,p∈ps->cu p=true):f70 (((ps,()),()),())=some ((dG ps,()),()):=by
 have aB:HW (((),(([]:F),((0:Int),()))),((ps,()),()))=some ((dG ps,()),()):=by
  refine fM (g:=AZ) (fun i=>(((),((ps.take i).flatMap (fun p=>fo (bM p)),((i:Int),()))),((ps,()),()))) ps.length (fun i hi=>?_) ?_ ps.length 0 (by omega)
  ·obtain⟨p,he⟩:∃p,ps[i]? =some p:=⟨ps[i],List.getElem?_eq_getElem hi⟩;have eG:=List.mem_of_getElem? he;have jc:=aap hb hk i;have ia:=PJ (hb.2 p eG) (hk p eG);have h2:=nl (bM p).length (by omega)
   have nZ:=hb.1;simp only[AZ,bZ hi,cond_true,bQ,he,Option.bind_some,FI p (hb.2 p eG) (hk p eG),FK (bM p).length (by omega),nj (fun p=>fo (bM p)) he,bK (i:=i) (by unfold am;omega)]
   generalize List.flatMap (fun p=>fo (bM p)) (List.take i ps)=A at jc ⊢
   rw[ef (by omega),Option.bind_some,ef (by simp;omega),Option.bind_some,ef (by simp;omega),Option.bind_some]
   simp only[fo,List.append_assoc]
  ·simp only[AZ,cX,cond_false,List.take_length];rfl
 simp only[f70,aB,Option.bind_some]
theorem xj{ps:List ba}(h:jU ps=true):(∀p,p∈ps->cu p=true)/\ps.length<=5:=by
 unfold jU at h;simp only[Bool.and_eq_true,decide_eq_true_eq,List.all_eq_true] at h;exact⟨h.1.1.1.1,h.1.1.2⟩
def b9(c:UInt8)(s:F):Prop:=∀x,x∈s->x≠c
theorem b9.cU{c:UInt8}{s t:F}(h:b9 c s)(k:b9 c t):b9 c (s++t):=fun x hx=>(List.mem_append.1 hx).elim (h x) (k x)
theorem b9.nil(c:UInt8):b9 c []:=fun x hx=>by cases hx
theorem b9.tail{c b:UInt8}{s:F}(h:b9 c (b::s)):b9 c s:=fun x hx=>h x (List.mem_cons_of_mem _ hx)
theorem b9.head{c b:UInt8}{s:F}(h:b9 c (b::s)):(b==c)=false:=by
 have:=h b List.mem_cons_self;simpa using this
theorem b9.lit{c:UInt8}{s:F}(h:s.all (fun x=>!(x==c))=true):b9 c s:=fun x hx=>by
 have:=List.all_eq_true.1 h x hx;simpa using this
theorem Of{c:UInt8}:∀{s:F},b9 c s->bO c s=[s]:=by
 intro s;induction s with
 |nil=>intro _;rfl
 |cons b r ih=>
  intro h;unfold bO;rw[h.head,ih h.tail];rfl
theorem M5(c b:UInt8)(r:F):bO c (b::r)=bif b==c then []::bO c r else match bO c r with|x::xs=>(b::x)::xs|[]=>[[b]]:=rfl
theorem ry{c:UInt8}{b:F}:∀{a:F},b9 c a->bO c (a++c::b)=a::bO c b:=by
 intro a;induction a with
 |nil=>intro _;show bO c (c::b)=_;rw[M5,beq_self_eq_true];rfl
 |cons x r ih=>
  intro h;show bO c (x::(r++c::b))=_;rw[M5,h.head,ih h.tail];rfl
theorem NA{c x:UInt8}:∀{s:F},x∈s->x≠c->∃p,p∈bO c s/\x∈p:=by
 intro s;induction s with
 |nil=>intro h;cases h
 |cons b r ih=>
  intro h hx;unfold bO;cases hb:b==c with
  |true=>
   have hb:=eq_of_beq hb;rcases List.mem_cons.1 h with rfl|h
   ·exact absurd hb hx
   ·obtain⟨p,h1,h2⟩:=ih h hx;exact⟨p,List.mem_cons_of_mem _ h1,h2⟩
  |false=>
   simp only[cond_false];have hne:=pz c r;split
   ·rename_i y bh hy;rcases List.mem_cons.1 h with rfl|h
    ·exact⟨_,List.mem_cons_self,List.mem_cons_self⟩
    ·obtain⟨p,h1,h2⟩:=ih h hx;rw[hy] at h1;rcases List.mem_cons.1 h1 with rfl|h1
     ·exact⟨_,List.mem_cons_self,List.mem_cons_of_mem _ h2⟩
     ·exact⟨p,List.mem_cons_of_mem _ h1,h2⟩
   ·rename_i hy;exact absurd hy hne
def dj(c:UInt8):F->Option (F×F)
 |[]=>none
 |b::r=>bif b==c then some ([],r) else match dj c r with
  |some (x,y)=>some (b::x,y)
  |none=>none
theorem aiZ{c:UInt8}:∀{s:F},b9 c s->dj c s=none:=by
 intro s;induction s with
 |nil=>intro _;rfl
 |cons b r ih=>intro h;simp only[dj,h.head,cond_false,ih h.tail]
theorem rT{c:UInt8}{b:F}:∀{a:F},b9 c a->dj c (a++c::b)=some (a,b):=by
 intro a;induction a with
 |nil=>intro _;simp[dj]
 |cons x r ih=>intro h;show dj c (x::(r++c::b))=_;simp only[dj,h.head,cond_false,ih h.tail]
theorem iW{c:UInt8}:∀{s x y:F},dj c s=some (x,y)->s=x++c::y/\b9 c x:=by
 intro s;induction s with
 |nil=>intro x y h;cases h
 |cons b r ih=>
  intro x y h;simp only[dj] at h;cases hb:b==c with
  |true=>
   rw[hb] at h;simp only[cond_true,Option.some.injEq,Prod.mk.injEq] at h;obtain⟨rfl,rfl⟩:=h;exact⟨by rw[eq_of_beq hb];rfl,b9.nil c⟩
  |false=>
   rw[hb] at h;simp only[cond_false] at h;split at h
   ·rename_i ib y' hc;cases h;obtain⟨h1,h2⟩:=ih hc;refine⟨by rw[h1];rfl,fun z hz=>?_⟩
    rcases List.mem_cons.1 hz with rfl|hz
    ·simpa using hb
    ·exact h2 z hz
   ·cases h
theorem afd{c:UInt8}:∀{s:F},dj c s=none->b9 c s:=by
 intro s;induction s with
 |nil=>intro _;exact b9.nil c
 |cons b r ih=>
  intro h;simp only[dj] at h;cases hb:b==c with
  |true=>rw[hb] at h;cases h
  |false=>
   rw[hb] at h;simp only[cond_false] at h;split at h
   ·cases h
   ·rename_i hc;intro z hz;rcases List.mem_cons.1 hz with rfl|hz
    ·simpa using hb
    ·exact ih hc z hz
theorem Q'(c:UInt8):∀s:F,Lib.indexByte s c=match dj c s with|some (x,_)=>(x.length:Int)|none=>-1:=by
 intro s;induction s with
 |nil=>rfl
 |cons b r ih=>
  simp only[dj];unfold Lib.indexByte;cases hb:b==c with
  |true=>simp
  |false=>
   rw[ih];simp only[cond_false];cases hc:dj c r with
   |none=>simp
   |some q=>obtain⟨x,y⟩:=q;simp
theorem NB(c:UInt8)(s:F):bO c s=match dj c s with|some (x,y)=>x::bO c y|none=>[s]:=by
 cases h:dj c s with
 |none=>exact Of (afd h)
 |some q=>
  obtain⟨x,y⟩:=q;obtain⟨h1,h2⟩:=iW h;show bO c s=x::bO c y;rw[h1];exact ry h2
theorem Dt{s:F}(h:iA s=true):∀x,x∈s->(97<=x.toNat/\x.toNat<=122)\/(48<=x.toNat/\x.toNat<=57):=by
 cases s with
 |nil=>cases h
 |cons b r=>
  rw[Na] at h;simp only[Bool.and_eq_true] at h;intro x hx;have:=List.all_eq_true.1 h.1.2 x hx;simp only[iH,cL,Bool.or_eq_true,Bool.and_eq_true,decide_eq_true_eq] at this;omega
theorem OB{s:F}(h:iA s=true){c:UInt8}(hc:c.toNat<48\/(57<c.toNat/\c.toNat<97)):b9 c s:=fun x hx e=>by
 have:=Dt h x hx;rw[e] at this;omega
theorem aaK{s:F}(h:dZ s=true):∀x,x∈s->x=46\/(48<=x.toNat/\x.toNat<=57):=by
 intro x hx;by_cases he:x=46
 ·exact .inl he
 ·obtain⟨p,h1,h2⟩:=NA hx he;unfold dZ hX at h;simp only[Bool.and_eq_true] at h;have:=List.all_eq_true.1 h.1 p h1;unfold fp at this;simp only[Bool.and_eq_true] at this;have:=iz (List.all_eq_true.1 this.1.1.1.1 x h2);exact .inr (by omega)
theorem NW{s:F}(h:dZ s=true){c:UInt8}(hc:c.toNat<48\/57<c.toNat)(Z:c≠46):b9 c s:=fun x hx e=>by
 rcases aaK h x hx with h1|h1
 ·exact Z (e▸h1)
 ·rw[e] at h1;omega
theorem OC{s:F}(h:fY s=true){c:UInt8}(hc:jT c.toNat=false)(Z:c≠47):b9 c s:=fun x hx e=>by
 subst e;obtain⟨p,h1,h2⟩:=NA hx Z;unfold fY at h;simp only[Bool.and_eq_true] at h;have:=List.all_eq_true.1 h.1 p h1;unfold h5 at this;simp only[Bool.and_eq_true] at this;have:=List.all_eq_true.1 this.1.1.1 x h2;rw[hc] at this;cases this
theorem He:∀n:Nat,(Lib.decDigits n).all cL=true:=by
 intro n;induction n using Nat.strongRecOn with
 |_ n ih=>
  have Z:∀m:Nat,m<10->cL (UInt8.ofNat (48+m))=true:=fun m hm=>by
   unfold cL;have:(UInt8.ofNat (48+m)).toNat=48+m:=by rw[UInt8.toNat_ofNat'];omega
   rw[this];simp;omega
  rw[Lib.decDigits];split
  ·rename_i h;show(cL _&&true)=true;rw[Z n h];rfl
  ·rename_i h;rw[List.all_append,ih (n/10) (by omega)]
   show(true&&(cL _&&true))=true;rw[Z (n%10) (by omega)];rfl
theorem Sp(n:Nat):Lib.decDigits n≠[]:=by
 rw[Lib.decDigits];split<;>simp
theorem Hd:∀n:Nat,c_ (Lib.decDigits n)=(n:Int):=by
 intro n;induction n using Nat.strongRecOn with
 |_ n ih=>
  have Z:∀m:Nat,m<10->((UInt8.ofNat (48+m)).toNat:Int)-48=(m:Int):=fun m hm=>by
   have:(UInt8.ofNat (48+m)).toNat=48+m:=by rw[UInt8.toNat_ofNat'];omega
   rw[this];omega
  rw[Lib.decDigits];split
  ·rename_i h;show dU 0 _=_;unfold dU;rw[Z n h];omega
  ·rename_i h;have:=ih (n/10) (by omega)
   unfold c_ at this ⊢;rw[List.foldl_append,this];show dU _ _=_;unfold dU;rw[Z (n%10) (by omega)];omega
theorem afc:∀n:Nat,1<=n->∃b r,Lib.decDigits n=b::r/\((b.toNat:Int)==48)=false:=by
 intro n;induction n using Nat.strongRecOn with
 |_ n ih=>
  intro hn;rw[Lib.decDigits];split
  ·rename_i h;refine⟨_,[],rfl,?_⟩;have:(UInt8.ofNat (48+n)).toNat=48+n:=by rw[UInt8.toNat_ofNat'];omega
   rw[this,beq_eq_false_iff_ne];omega
  ·rename_i h;obtain⟨b,r,h1,h2⟩:=ih (n/10) (by omega) (by omega)
   rw[h1];exact⟨b,_,rfl,h2⟩
theorem PZ(n:Nat):hY (Lib.decDigits n)=false:=by
 by_cases h:n<10
 ·rw[Lib.decDigits,dif_pos h];rfl
 ·obtain⟨b,r,h1,h2⟩:=afc n (by omega)
  rw[h1];cases r with
  |nil=>rfl
  |cons x r=>exact h2
theorem FD:∀(k n:Nat),n<10^(k+1)->(Lib.decDigits n).length<=k+1:=by
 intro k;induction k with
 |zero=>intro n h;rw[Lib.decDigits,dif_pos (by omega)];simp
 |succ k ih=>
  intro n h;rw[Lib.decDigits];split
  ·simp
  ·have:=ih (n/10) (by rw[Nat.pow_succ] at h;omega)
   simp;omega
theorem akA(n:Nat){c:UInt8}(hc:c.toNat<48\/57<c.toNat):b9 c (Lib.decDigits n):=fun x hx e=>by
 have:=iz (List.all_eq_true.1 (He n) x hx);rw[e] at this;omega
theorem Q9(n:Nat){c:UInt8}(hc:c.toNat<48\/57<c.toNat):b9 c (Lib.itoa (n:Int)):=by rw[pK];exact akA n hc
theorem aiU:∀k:Nat,k<16->jd k≠10/\jd k≠32:=by decide
theorem Ra(w:Int):b9 10 (fF w):=fun x hx=>by
 simp only[fF,List.mem_cons,List.not_mem_nil,or_false] at hx;rcases hx with rfl|rfl|rfl|rfl|rfl|rfl|rfl|rfl<;>exact(aiU _ (Nat.mod_lt _ (by decide))).1
theorem Qu(s:F):b9 10 (oQ s):=(Ra _).cU (Ra _)
def hH:F:=[100,105,114]
def hC:F:=[108,105,110,107]
def hZ:F:=[102,105,108,101]
def lN(e:aC):List F:=bif e.kind==1 then [hH,Lib.itoa e.mode,e.path] else bif e.kind==3 then [hC,e.path,e.text] else [hZ,Lib.itoa e.mode,e.path,Lib.itoa (e.text.length:Int)]
def k_:List F->F
 |[]=>[]
 |[x]=>x
 |x::y::r=>x++32::k_ (y::r)
def oK(e:aC):F:=k_ (lN e)
theorem NK:∀{ws:List F},ws≠[]->(∀w,w∈ws->b9 32 w)->bO 32 (k_ ws)=ws:=by
 intro ws;induction ws with
 |nil=>intro h;exact absurd rfl h
 |cons x r ih=>
  intro _ h;cases r with
  |nil=>exact Of (h x List.mem_cons_self)
  |cons y r=>
   show bO 32 (x++32::k_ (y::r))=_;rw[ry (h x List.mem_cons_self),ih (by simp) fun w hw=>h w (List.mem_cons_of_mem _ hw)]
theorem Q8{c:UInt8}(hc:c≠32):∀{ws:List F},(∀w,w∈ws->b9 c w)->b9 c (k_ ws):=by
 intro ws;induction ws with
 |nil=>intro _;exact b9.nil c
 |cons x r ih=>
  intro h;cases r with
  |nil=>exact h x List.mem_cons_self
  |cons y r=>
   refine(h x List.mem_cons_self).cU fun z hz=>?_
   rcases List.mem_cons.1 hz with rfl|hz
   ·exact fun e=>hc e.symm
   ·exact ih (fun w hw=>h w (List.mem_cons_of_mem _ hw)) z hz
theorem ac7{e:aC}(h:eK e=true):fY e.path=true:=by
 unfold eK at h;simp only[Bool.and_eq_true] at h;exact h.1
theorem DR{e:aC}(h:eK e=true)(hk:e.kind=3):fY e.text=true/\e.mode=0:=by
 unfold eK at h;rw[hk] at h;simp only[Bool.and_eq_true] at h;have h2:((e.mode==0)&&fY e.text)=true:=h.2;simp only[Bool.and_eq_true,beq_iff_eq] at h2;exact⟨h2.2,h2.1⟩
theorem OT{e:aC}(h:eK e=true)(hk:e.kind=1):e.text=[]:=by
 unfold eK at h;rw[hk] at h;simp only[Bool.and_eq_true] at h;have h2:(within e.mode 0 7&&e.text==[])=true:=h.2;simp only[Bool.and_eq_true] at h2;exact eq_of_beq h2.2
theorem NO{e:aC}(h:eK e=true)(hk:e.kind=2):kg e.text=true:=by
 unfold eK at h;rw[hk] at h;simp only[Bool.and_eq_true] at h;have h2:(within e.mode 0 7&&kg e.text)=true:=h.2;simp only[Bool.and_eq_true] at h2;exact h2.2
theorem E4{e:aC}(h:eK e=true):∃n:Nat,e.mode=n/\n<=7:=by
 have:=FB h;obtain⟨n,hn⟩:=Int.eq_ofNat_of_zero_le this.1;exact⟨n,hn,by have:=this.2;omega⟩
theorem AJ{s:F}(h:fY s=true):b9 32 s:=OC h (by decide) (by decide)
theorem AK{s:F}(h:fY s=true):b9 10 s:=OC h (by decide) (by decide)
theorem H7(n:Nat):b9 32 (Lib.itoa (n:Int)):=Q9 n (by decide)
theorem AN(n:Nat):b9 10 (Lib.itoa (n:Int)):=Q9 n (by decide)
theorem DU{e:aC}(h:eK e=true):(∀w,w∈lN e->b9 32 w)/\∀w,w∈lN e->b9 10 w:=by
 obtain⟨n,hn,_⟩:=E4 h;have hp:=ac7 h;unfold lN;rw[hn];rcases uj h with hk|hk|hk<;>rw[hk]
 ·refine⟨fun w hw=>?_,fun w hw=>?_⟩<;>have hw:w∈[hH,Lib.itoa (n:Int),e.path]:=hw<;>simp only[List.mem_cons,List.not_mem_nil,or_false] at hw<;>rcases hw with rfl|rfl|rfl
  ·exact b9.lit (by decide)
  ·exact H7 n
  ·exact AJ hp
  ·exact b9.lit (by decide)
  ·exact AN n
  ·exact AK hp
 ·refine⟨fun w hw=>?_,fun w hw=>?_⟩<;>have hw:w∈[hZ,Lib.itoa (n:Int),e.path,Lib.itoa (e.text.length:Int)]:=hw<;>simp only[List.mem_cons,List.not_mem_nil,or_false] at hw<;>rcases hw with rfl|rfl|rfl|rfl
  ·exact b9.lit (by decide)
  ·exact H7 n
  ·exact AJ hp
  ·exact H7 _
  ·exact b9.lit (by decide)
  ·exact AN n
  ·exact AK hp
  ·exact AN _
 ·have aq:=(DR h hk).1;refine⟨fun w hw=>?_,fun w hw=>?_⟩<;>have hw:w∈[hC,e.path,e.text]:=hw<;>simp only[List.mem_cons,List.not_mem_nil,or_false] at hw<;>rcases hw with rfl|rfl|rfl
  ·exact b9.lit (by decide)
  ·exact AJ hp
  ·exact AJ aq
  ·exact b9.lit (by decide)
  ·exact AK hp
  ·exact AK aq
theorem agK{e:aC}(h:eK e=true):b9 10 (oK e):=Q8 (by decide) (DU h).2
def vk(e:aC)(r:F):F:=bif e.kind==2 then e.text++10::r else r
theorem agJ{e:aC}(h:eK e=true)(r:F):d_ e++r=oK e++10::vk e r:=by
 unfold d_ oK lN vk;rcases uj h with hk|hk|hk<;>rw[hk]
 ·simp[k_,hH]
 ·simp[k_,hZ]
 ·simp[k_,hC]
theorem OI{e:aC}(h:eK e=true)(r:F):dj 10 (d_ e++r)=some (oK e,vk e r):=by
 rw[agJ h];exact rT (agK h)
def ik:F:=[112,97,99,107]
def fD:F:=[110,101,101,100]
def dN(p:ba):F:=k_ [ik,p.name,p.aU]
theorem TP{s:F}(h:iA s=true):b9 32 s:=OB h (by decide)
theorem TQ{s:F}(h:iA s=true):b9 10 s:=OB h (by decide)
theorem TH{s:F}(h:dZ s=true):b9 32 s:=NW h (by decide) (by decide)
theorem TI{s:F}(h:dZ s=true):b9 10 s:=NW h (by decide) (by decide)
theorem DC{p:ba}(h:cu p=true):bO 32 (dN p)=[ik,p.name,p.aU]:=by
 obtain⟨h1,h2,_⟩:=ng h;refine NK (by simp) fun w hw=>?_
 simp only[List.mem_cons,List.not_mem_nil,or_false] at hw;rcases hw with rfl|rfl|rfl
 ·exact b9.lit (by decide)
 ·exact TP h1
 ·exact TH h2
theorem PQ{p:ba}(h:cu p=true):b9 10 (dN p):=by
 obtain⟨h1,h2,_⟩:=ng h;refine Q8 (by decide) fun w hw=>?_
 simp only[List.mem_cons,List.not_mem_nil,or_false] at hw;rcases hw with rfl|rfl|rfl
 ·exact b9.lit (by decide)
 ·exact TQ h1
 ·exact TI h2
def iC(p:ba):F:=p.bj.flatMap cJ++10::dd p.bL
theorem uB(p:ba):di p=dN p++10::iC p:=by
 unfold di il dN iC;simp[k_,ik]
theorem O1{p:ba}(h:cu p=true):dj 10 (di p)=some (dN p,iC p):=by rw[uB];exact rT (PQ h)
def eF(p:ba):F:=[115,117,109,32]++oQ (di p)
theorem uJ(p:ba):bM p=eF p++10::di p:=by unfold bM eF;simp
theorem agy(p:ba):dj 10 (bM p)=some (eF p,di p):=by
 rw[uJ];exact rT ((b9.lit (by decide)).cU (Qu _))
theorem xk{n:bB}(h:dv n=true):iA n.name=true/\((n.kind=0/\n.aU=[])\/((n.kind=1\/n.kind=2\/n.kind=3)/\dZ n.aU=true)):=by
 unfold dv at h;simp only[Bool.and_eq_true,Bool.or_eq_true] at h;refine⟨h.1,?_⟩;rcases h.2 with h2|h2
 ·exact .inl ⟨eq_of_beq h2.1,eq_of_beq h2.2⟩
 ·exact .inr ⟨by have:=rN h2.1;omega,h2.2⟩
theorem QQ{n:bB}(h:dv n=true):b9 10 (cK n):=by
 obtain⟨h1,h2⟩:=xk h;have hs:b9 10 (dB n.kind):=by unfold dB;cases n.kind==1<;>cases n.kind==2<;>cases n.kind==3<;>exact b9.lit (by decide)
 refine((TQ h1).cU hs).cU ?_
 rcases h2 with⟨_,h2⟩|⟨_,h2⟩
 ·rw[h2];exact b9.nil _
 ·exact TI h2
theorem aeI{n:bB}(h:dv n=true)(r:F):dj 10 (cJ n++r)=some (fD++32::cK n,r):=by
 have:cJ n++r=(fD++32::cK n)++10::r:=by unfold cJ fD;simp
 rw[this];refine rT ((b9.lit (by decide)).cU fun z hz=>?_)
 rcases List.mem_cons.1 hz with rfl|hz
 ·decide
 ·exact QQ h z hz
theorem HL(r:F):dj 10 (10::r)=some ([],r):=by simp[dj]
theorem aeG{n:bB}{ns:List bB}{r:F}(h:dv n=true):dj 10 ((n::ns).flatMap cJ++r)=some (fD++32::cK n,ns.flatMap cJ++r):=by
 rw[List.flatMap_cons,List.append_assoc];exact aeI h _
theorem Og(s r:F):dj 10 (fo s++r)=some (Lib.itoa (s.length:Int),s++r):=by
 have:fo s++r=Lib.itoa (s.length:Int)++10::(s++r):=by unfold fo;simp
 rw[this];exact rT (AN _)
def e_(m:Int)(s:F):Bool:=s.all cL&&!(s==[])&&!hY s&&decide (s.length<=9)&&decide (c_ s<=m)
theorem xE(s:F)(m:Int)(hs:am s.length):f115 ((s,(m,())),())=some ((bif e_ m s then c_ s else 0,(e_ m s,())),()):=by
 have key:s.length<=9->rR ((s,(m,((0:Int),((s.length:Int),((0:Int),()))))),())=some (bif allI (fun i x=>cL x) 0 s then .inr ((m,(c_ s,())),()) else .inl (((0:Int),(false,())),())):=by
  intro hQ;have:=k1 pO s (fun i n=>((s,(m,(n,((s.length:Int),((i:Int),()))))),())) (fun i x n=>some (bif cL x then .inl (dU n x) else .inr (.inl (((0:Int),(false,())),())))) (fun n=>.inr ((m,(n,())),()))
   (fun i n=>0<=n/\n<10^i/\(i<=9)) (0:Int) ⟨by decide,by decide,by decide⟩ (fun i x n hx dk=>?_) (fun n _=>?_)
  ·exact this.trans (by rw[xo];rfl)
  ·have hi:=ct hx;have hw:am i:=by unfold am at*;omega
   obtain⟨h0,h1,cc⟩:=dk;refine⟨?_,fun aD ai=>?_⟩
   ·simp only[pO,bZ hi,cond_true,xB,bQ,hx,Option.bind_some,bK hw,n8,mX,K8];cases Z:cL x with
    |false=>
     unfold cL at Z;by_cases ay:(48:Int)<=(x.toNat:Int)<;>by_cases bo:(x.toNat:Int)<=57<;>simp[ay,bo] at Z ⊢
    |true=>
     obtain⟨ay,bo⟩:=iz Z;have:=D7 (i:=i) Z (by omega) h0 h1
     simp only[ay,bo,decide_true,Bool.not_true,Bool.not_false,cond_true,cond_false,Option.bind_some,bQ,hx,this,bK hw,Bool.and_true,Option.map_some]
   ·simp only[Option.some.injEq] at ai;cases au:cL x with
    |false=>rw[au] at ai;cases ai
    |true=>
     rw[au] at ai;simp only[cond_true,Sum.inl.injEq] at ai;subst ai;have:=Dy au h0 h1;exact⟨this.1,this.2,by omega⟩
  ·simp only[pO,cX,cond_false]
 rw[fX] at key;cases s with
 |nil=>rfl
 |cons b r=>
  have hb:aP (b::r) 0=some b:=rfl;have he:((b::r)==([]:F))=false:=rfl;have hl:decide (((b::r).length:Int)>1)=!(r==[]):=by cases r<;>simp;omega
  have hQ:decide (((b::r).length:Int)>9)=!decide ((b::r).length<=9):=by by_cases h:(b::r).length<=9<;>simp only[h,decide_true,decide_false,Bool.not_true,Bool.not_false,decide_eq_true_eq,decide_eq_false_iff_not]<;>omega
  have qf:hY (b::r)=(!(r==[])&&(b.toNat:Int)==48):=by cases r<;>rfl
  simp only[f115,z1,he,hl,hQ,Bool.not_false,cond_true,Bool.not_not,hb,Option.bind_some];have fin:(b::r).length<=9->hY (b::r)=false->((rR ((b::r,(m,((0:Int),(((b::r).length:Int),((0:Int),()))))),())).bind fun II=>match II with
    |.inl vC=>some ((vC.1.1,(vC.1.2.1,())),())
    |.inr ql=>bif decide (ql.1.2.1>ql.1.1) then some (((0:Int),(false,())),()) else some ((ql.1.2.1,(true,())),()))=
    some ((bif e_ m (b::r) then c_ (b::r) else 0,(e_ m (b::r),())),()):=by
   intro hQ jH;rw[key hQ];unfold e_;rw[he,jH];cases Z:List.all (b::r) cL with
   |false=>rfl
   |true=>
    simp only[cond_true,Option.bind_some,Bool.not_false,Bool.true_and,mX];simp only[hQ,decide_true,Bool.true_and];cases decide (c_ (b::r)<=m)<;>rfl
  by_cases au:(b::r).length<=9
  ·simp only[au,decide_true,cond_true];cases hr:(r==[]) with
   |true=>
    simp only[Bool.not_true,cond_false,Option.bind_some];exact fin au (by rw[qf,hr];rfl)
   |false=>
    simp only[Bool.not_false,cond_true,Option.bind_some];cases pe:((b.toNat:Int)==48) with
    |true=>
     have:e_ m (b::r)=false:=by unfold e_;rw[qf,hr,pe];simp
     rw[this];rfl
    |false=>
     simp only[cond_false];exact fin au (by rw[qf,hr,pe];rfl)
  ·have:e_ m (b::r)=false:=by
    unfold e_;rw[decide_eq_false au];simp
   simp only[au,decide_false,cond_false,Option.bind_some,cond_true,this]
theorem agD{n:Nat}{m:Int}(h:(n:Int)<=m)(hQ:n<1000000000):e_ m (Lib.decDigits n)=true:=by
 unfold e_;have h1:(Lib.decDigits n==[])=false:=by simpa using Sp n
 have h2:=FD 8 n (by omega)
 rw[He,h1,PZ,Hd,decide_eq_true h2,decide_eq_true h];rfl
theorem acZ(n:Nat)(h:n<1000000):f74 ((Lib.itoa (n:Int),()),())=some (((n:Int),()),()):=by
 have h1:(Lib.decDigits n==[])=false:=by simpa using Sp n
 have h2:=FD 5 n (by omega)
 have:=FJ ((Lib.decDigits n,()),()) (show am (Lib.decDigits n).length by unfold am;omega)
 have this:f74 ((Lib.decDigits n,()),())=some ((bif(Lib.decDigits n).all cL&&decide ((Lib.decDigits n).length<=6)&&!(Lib.decDigits n==[])&&!hY (Lib.decDigits n) then c_ (Lib.decDigits n) else-1,()),()):=this
 rw[pK,this,He,decide_eq_true h2,h1,PZ,Hd];rfl
def nE{ax:Type}(B:Option ax)(R:ax->Prop):Prop:=∀a,B=some a <-> R a
theorem nE.anf{ax:Type}{B cZ:Option ax}{R:ax->Prop}(h:nE B R)(ai:nE cZ R):B=cZ:=by
 cases B with
 |some a=>exact((ai a).2 ((h a).1 rfl)).symm
 |none=>
  cases cZ with
  |none=>rfl
  |some a=>exact(h a).2 ((ai a).1 rfl)
noncomputable abbrev aoY:bg:=[(209,Ju)]
theorem apR:aW U (bd ah aoY):=bc ⟨Tx,⟨⟩⟩
abbrev i166:Shape:=⟨[ap 0,ap 1],[],23⟩
abbrev UK:Shape:=⟨[ap 4,ap 5,ar 6],[],23⟩
noncomputable def f166(a:i166.J):Option UK.J:=
(f209 ((a.1.1,a.1.2.1,()),())).bind fun b=>
 bif(decide (b.1.1>=(0:Int))) then
(bw a.1.1 (0:Int) b.1.1).bind fun c=>
(bw a.1.1 (IntKind.i64.wrap (b.1.1+(a.1.2.1.length:Int))) (a.1.1.length:Int)).bind fun d=>
 some ((c,d,true,()),())
else
 some ((a.1.1,([]:F),false,()),())
noncomputable def WH:aF:=aK ah Tryz.f166 i166 UK [] f166
theorem amK:aE U 166 WH:=aL apR Tryz.func166 (by kernel_rfl) af (fun y=>by kernel_rfl) fun a=>by kernel_rfl
noncomputable abbrev aps:bg:=[(166,WH)]
theorem ap1:aW U (bd ah aps):=bc ⟨amK,⟨⟩⟩
abbrev i114:Shape:=⟨[ap 0,ap 1],[],13⟩
abbrev Vg:Shape:=⟨[ap 4,ap 5,ar 6],[],13⟩
noncomputable def f114(a:i114.J):Option Vg.J:=
(f166 ((a.1.1,a.1.2.1,()),())).bind fun b=>
 some ((b.1.1,b.1.2.1,b.1.2.2.1,()),())
noncomputable def vU:aF:=aK ah Tryz.f114 i114 Vg [] f114
theorem BM:aE U 114 vU:=aL ap1 Tryz.func114 (by kernel_rfl) af (fun y=>by kernel_rfl) fun a=>by kernel_rfl
noncomputable def Tl:aF:=Hh
theorem akY:aE U 250 Tl:=abj (fn:=Tryz.f250) (by kernel_rfl) (by kernel_rfl) (by kernel_rfl) (by kernel_rfl) (by kernel_rfl)
noncomputable abbrev aoD:bg:=[(212,B8),(250,Tl)]
theorem Xe:aW U (bd ah aoD):=bc ⟨z212,akY,⟨⟩⟩
abbrev y1:Shape:=⟨[ap 0,ap 1,ad 5],[],34⟩
abbrev FV:List aN:=[(.ret,⟨[ad 4],[],34⟩)]
noncomputable def aiS(y:y1.J):bJ y1 FV:=
(f212 ((y.1.1,y.1.2.1,()),())).bind fun a=>
 bif(a.1.1==((-1):Int)) then
 some (.inr ((y.1.2.2.1,()),()))
else
(bw y.1.1 (IntKind.i64.wrap (a.1.1+(y.1.2.1.length:Int))) (y.1.1.length:Int)).bind fun b=>
 some (.inl ((b,y.1.2.1,(IntKind.i64.wrap (y.1.2.2.1+(1:Int))),()),()))
noncomputable def Q6:y1.J->Option (aw FV):=bn aiS
theorem ahX:aT U (an (codeOf Tryz.f211) 1 62) (a6 y1 FV Q6):=bN Xe (by kernel_rfl) af fun y=>by kernel_rfl
abbrev i211:Shape:=⟨[ap 0,ap 1],[],34⟩
abbrev Ui:Shape:=⟨[ad 4],[],34⟩
noncomputable def f211(a:i211.J):Option Ui.J:=
 bif((a.1.2.1.length:Int)==(0:Int)) then
 none
else
 bif((a.1.2.1.length:Int)==(1:Int)) then
(aP a.1.2.1 (0:Int)).bind fun b=>
(some ()).bind fun c=>
 some ((((Lib.countByte a.1.1 (b.toNat:Int).toNat.toUInt8:Nat):Int),()),())
else
(Q6 ((a.1.1,a.1.2.1,(0:Int),()),())).bind fun d=>
 some ((d.1.1,()),())
noncomputable def Wj:aF:=aK ah Tryz.f211 i211 Ui [] f211
theorem ams:aE U 211 Wj:=aL Xe Tryz.func211 (by kernel_rfl) (bb ahX af) (fun y=>by kernel_rfl) fun a=>by kernel_rfl
noncomputable abbrev aoX:bg:=[(211,Wj),(212,B8)]
theorem JP:aW U (bd ah aoX):=bc ⟨ams,z212,⟨⟩⟩
abbrev QL:Shape:=⟨[ap 0,ap 1,ad 2,ad 3],[],66⟩
abbrev Qr:List aN:=[(.norm,⟨[ap 0,ap 1,ad 2,ad 3],[],66⟩)]
noncomputable def zO(y:QL.J):Option (aw Qr):=
 bif(decide (y.1.2.2.2.1<(0:Int))) then
(f211 ((y.1.1,y.1.2.1,()),())).bind fun a=>
 some ((y.1.1,y.1.2.1,y.1.2.2.1,(IntKind.i64.wrap (a.1.1+(1:Int))),()),())
else
 some ((y.1.1,y.1.2.1,y.1.2.2.1,y.1.2.2.2.1,()),())
theorem aic:aT U (an (codeOf Tryz.f167) 1 30) (a6 QL Qr zO):=cQ JP (by kernel_rfl) af fun y=>by kernel_rfl
abbrev xO:Shape:=⟨[ap 0,ap 1,ad 2,ad 3,bf 9 3000576,ad 10],[be 3000576 .str 9 0],66⟩
abbrev D0:List aN:=[(.exit 0,⟨[ap 0,bf 9 3000576,ad 10],[be 3000576 .str 9 0],66⟩)]
noncomputable def xZ(y:xO.J):bJ xO D0:=
 bif(decide (y.1.2.2.2.2.2.1<y.1.2.2.2.1)) then
(f212 ((y.1.1,y.1.2.1,()),())).bind fun a=>
 bif(decide (a.1.1<(0:Int))) then
 some (.inr ((y.1.1,(),y.1.2.2.2.2.2.1,()),y.2.1,()))
else
(bw y.1.1 (0:Int) (IntKind.i64.wrap (a.1.1+y.1.2.2.1))).bind fun b=>
(a_ y.2.1.length y.1.2.2.2.2.2.1).bind fun c=>
((y.2.1[c]?).bind fun q=>some b).bind fun d=>
(bw y.1.1 (IntKind.i64.wrap (a.1.1+(y.1.2.1.length:Int))) (y.1.1.length:Int)).bind fun e=>
 some (.inl ((e,y.1.2.1,y.1.2.2.1,y.1.2.2.2.1,(),(IntKind.i64.wrap (y.1.2.2.2.2.2.1+(1:Int))),()),(y.2.1.set c d),()))
else
 some (.inr ((y.1.1,(),y.1.2.2.2.2.2.1,()),y.2.1,()))
noncomputable def un:xO.J->Option (aw D0):=bn xZ
theorem aep:aT U (an (codeOf Tryz.f167) 1 2044) (a6 xO D0 un):=bN JP (by kernel_rfl) af fun y=>by kernel_rfl
abbrev i167:Shape:=⟨[ap 0,ap 1,ad 2,ad 3],[],66⟩
abbrev UJ:Shape:=⟨[aH 8 .str],[],66⟩
noncomputable def f167(a:i167.J):Option UJ.J:=
 bif(a.1.2.2.2.1==(0:Int)) then
 some ((([]:List F),()),())
else
 bif(a.1.2.1==([]:F)) then
 none
else
(zO ((a.1.1,a.1.2.1,a.1.2.2.1,a.1.2.2.2.1,()),())).bind fun b=>
(jj 16 (li b.1.2.2.2.1 (IntKind.i64.wrap ((b.1.1.length:Int)+(1:Int)))) (li b.1.2.2.2.1 (IntKind.i64.wrap ((b.1.1.length:Int)+(1:Int)))) ([]:F)).bind fun c=>
(un ((b.1.1,b.1.2.1,b.1.2.2.1,(IntKind.i64.wrap ((li b.1.2.2.2.1 (IntKind.i64.wrap ((b.1.1.length:Int)+(1:Int))))-(1:Int))),(),(0:Int),()),c,())).bind fun d=>
(a_ d.2.1.length d.1.2.2.1).bind fun e=>
((d.2.1[e]?).bind fun q=>some d.1.1).bind fun f=>
(bw (d.2.1.set e f) (0:Int) (IntKind.i64.wrap (d.1.2.2.1+(1:Int)))).bind fun g=>
 some ((g,()),())
noncomputable def JA:aF:=aK ah Tryz.f167 i167 UJ [] f167
theorem z167:aE U 167 JA:=aL JP Tryz.func167 (by kernel_rfl) (bb aic (bb aep af)) (fun y=>by kernel_rfl) fun a=>by kernel_rfl
noncomputable abbrev apr:bg:=[(167,JA)]
theorem ap0:aW U (bd ah apr):=bc ⟨z167,⟨⟩⟩
abbrev i116:Shape:=⟨[ap 0,ap 1],[],8⟩
abbrev Ve:Shape:=⟨[aH 4 .str],[],8⟩
noncomputable def f116(a:i116.J):Option Ve.J:=
(f167 ((a.1.1,a.1.2.1,(0:Int),((-1):Int),()),())).bind fun b=>
 some ((b.1.1,()),())
noncomputable def W9:aF:=aK ah Tryz.f116 i116 Ve [] f116
theorem z116:aE U 116 W9:=aL ap0 Tryz.func116 (by kernel_rfl) af (fun y=>by kernel_rfl) fun a=>by kernel_rfl
abbrev i251:Shape:=⟨[ap 0,ap 1],[],18⟩
abbrev T4:Shape:=⟨[ar 4],[],18⟩
noncomputable def f251(a:i251.J):Option T4.J:=
 bif(decide ((a.1.1.length:Int)>=(a.1.2.1.length:Int))) then
(bw a.1.1 (0:Int) (a.1.2.1.length:Int)).bind fun b=>
 some (((b==a.1.2.1),()),())
else
 some ((false,()),())
noncomputable def Jr:aF:=aK ah Tryz.f251 i251 T4 [] f251
theorem Tv:aE U 251 Jr:=aL g0 Tryz.func251 (by kernel_rfl) af (fun y=>by kernel_rfl) fun a=>by kernel_rfl
noncomputable abbrev aoB:bg:=[(251,Jr)]
theorem apJ:aW U (bd ah aoB):=bc ⟨Tv,⟨⟩⟩
abbrev i213:Shape:=⟨[ap 0,ap 1],[],15⟩
abbrev Ug:Shape:=⟨[ap 4,ar 5],[],15⟩
noncomputable def f213(a:i213.J):Option Ug.J:=
(f251 ((a.1.1,a.1.2.1,()),())).bind fun b=>
 bif(!b.1.1) then
 some ((a.1.1,false,()),())
else
(bw a.1.1 (a.1.2.1.length:Int) (a.1.1.length:Int)).bind fun c=>
 some ((c,true,()),())
noncomputable def Wi:aF:=aK ah Tryz.f213 i213 Ug [] f213
theorem z213:aE U 213 Wi:=aL apJ Tryz.func213 (by kernel_rfl) af (fun y=>by kernel_rfl) fun a=>by kernel_rfl
noncomputable abbrev aoW:bg:=[(213,Wi)]
theorem apQ:aW U (bd ah aoW):=bc ⟨z213,⟨⟩⟩
abbrev i168:Shape:=⟨[ap 0,ap 1],[],11⟩
abbrev UI:Shape:=⟨[ap 4,ar 5],[],11⟩
noncomputable def f168(a:i168.J):Option UI.J:=
(f213 ((a.1.1,a.1.2.1,()),())).bind fun b=>
 some ((b.1.1,b.1.2.1,()),())
noncomputable def WG:aF:=aK ah Tryz.f168 i168 UI [] f168
theorem z168:aE U 168 WG:=aL apQ Tryz.func168 (by kernel_rfl) af (fun y=>by kernel_rfl) fun a=>by kernel_rfl
noncomputable abbrev aoA:bg:=[(251,Jr)]
theorem apI:aW U (bd ah aoA):=bc ⟨Tv,⟨⟩⟩
abbrev i215:Shape:=⟨[ap 0,ap 1],[],8⟩
abbrev Uf:Shape:=⟨[ar 4],[],8⟩
noncomputable def f215(a:i215.J):Option Uf.J:=
(f251 ((a.1.1,a.1.2.1,()),())).bind fun b=>
 some ((b.1.1,()),())
noncomputable def Wh:aF:=aK ah Tryz.f215 i215 Uf [] f215
theorem amr:aE U 215 Wh:=aL apI Tryz.func215 (by kernel_rfl) af (fun y=>by kernel_rfl) fun a=>by kernel_rfl
noncomputable abbrev aoz:bg:=[(167,JA)]
theorem apH:aW U (bd ah aoz):=bc ⟨z167,⟨⟩⟩
abbrev i216:Shape:=⟨[ap 0,ap 1,ad 2],[],11⟩
abbrev Ue:Shape:=⟨[aH 6 .str],[],11⟩
noncomputable def f216(a:i216.J):Option Ue.J:=
(f167 ((a.1.1,a.1.2.1,(0:Int),a.1.2.2.1,()),())).bind fun b=>
 some ((b.1.1,()),())
noncomputable def Wg:aF:=aK ah Tryz.f216 i216 Ue [] f216
theorem amq:aE U 216 Wg:=aL apH Tryz.func216 (by kernel_rfl) af (fun y=>by kernel_rfl) fun a=>by kernel_rfl
def gS(c:UInt8)(s:F):F:=match dj c s with|some (x,_)=>x|none=>s
def gR(c:UInt8)(s:F):F:=match dj c s with|some (_,y)=>y|none=>[]
theorem O5(c:UInt8)(r:F):f209 ((r,([c],())),())=some ((Lib.indexByte r c,()),()):=by
 have h0:aP ([c]:F) (0:Int)=some c:=rfl;have h1:((([c]:F).length:Int)==0)=false:=rfl;have h2:((([c]:F).length:Int)==1)=true:=rfl;have h3:((c.toNat:Int)).toNat.toUInt8=c:=by simp
 simp only[f209,zH,f244,h0,h1,h2,h3,Bool.not_false,cond_true,cond_false,Option.bind_some,Option.bind];by_cases h:(([c]:F)==r)=true
 ·have:r=[c]:=(by simpa using h:[c]=r).symm
  subst this;simp[Lib.indexByte]<;>rfl
 ·simp[h]<;>rfl
theorem mA(c:UInt8)(s:F)(hs:am s.length):f114 ((s,([c],())),())=some ((gS c s,(gR c s,((dj c s).isSome,()))),()):=by
 have hi:=O5 c s;rw[Q'] at hi;unfold gS gR;simp only[f114,f166,hi,Option.bind_some];cases h:dj c s with
 |none=>rfl
 |some q=>
  obtain⟨x,y⟩:=q;obtain⟨h1,_⟩:=iW h;have hl:s.length=x.length+1+y.length:=by rw[h1];simp;omega
  have Z:decide (((x.length:Nat):Int)>=0)=true:=decide_eq_true (by omega)
  have hw:IntKind.i64.wrap (((x.length:Nat):Int)+((([c]:F).length:Nat):Int))=((x.length+1:Nat):Int):=by
   rw[ee (by simp;omega) (by unfold am at hs;simp;omega)];simp
  have e1:bw s 0 ((x.length:Nat):Int)=some x:=by rw[hU (by omega),h1];simp
  have e2:bw s ((x.length+1:Nat):Int) ((s.length:Nat):Int)=some y:=by
   rw[gu (by omega)]
   congr 1
   rw[h1,show x++c::y=(x++[c])++y by simp,List.drop_left' (by simp)]
  simp only[Z,cond_true,e1,hw,e2,Option.bind_some,Option.isSome_some]
def dK(p s:F):Option F:=bif decide (p.length<=s.length)&&s.take p.length==p then some (s.drop p.length) else none
theorem MX(s p:F):f251 ((s,(p,())),())=some (((dK p s).isSome,()),()):=by
 have Z:decide (((s.length:Nat):Int)>=((p.length:Nat):Int))=decide (p.length<=s.length):=by congr 1;apply propext;omega
 unfold dK;simp only[f251,Z];cases h:decide (p.length<=s.length) with
 |false=>rfl
 |true=>
  rw[cond_true,hU (of_decide_eq_true h)];simp only[Option.bind_some,Bool.true_and];cases (s.take p.length==p)<;>rfl
theorem aaR(s p:F):f215 ((s,(p,())),())=some (((dK p s).isSome,()),()):=by
 have:=MX s p;simp only[f215,this,Option.bind_some]
theorem MY(s p:F):f168 ((s,(p,())),())=some (((dK p s).getD s,((dK p s).isSome,())),()):=by
 have h0:=MX s p;simp only[f168,f213,h0,Option.bind_some];unfold dK;cases h:decide (p.length<=s.length)&&s.take p.length==p with
 |false=>rfl
 |true=>
  simp only[Bool.and_eq_true,decide_eq_true_eq] at h;have e:bw s ((p.length:Nat):Int) ((s.length:Nat):Int)=some (s.drop p.length):=gu h.1;simp only[cond_true,Option.isSome_some,Bool.not_true,cond_false,e,Option.bind_some,Option.getD_some]
theorem uu(p r:F):dK p (p++r)=some r:=by
 unfold dK;rw[decide_eq_true (by simp)]
 simp
def splitN(c:UInt8):Nat->F->List F
 |0,s=>[s]
 |k+1,s=>match dj c s with
  |some (x,y)=>x::splitN c k y
  |none=>[s]
theorem xr(c:UInt8):∀(k:Nat) (s:F),(bO c s).length<=k+1->splitN c k s=bO c s:=by
 intro k;induction k with
 |zero=>
  intro s h;rw[NB] at h ⊢;cases hc:dj c s with
  |none=>rfl
  |some q=>
   obtain⟨x,y⟩:=q;rw[hc] at h;have:=pz c y;cases hy:bO c y with
   |nil=>exact absurd hy this
   |cons z zs=>simp[hy] at h
 |succ k ih=>
  intro s h;rw[NB] at h ⊢;unfold splitN;cases hc:dj c s with
  |none=>rfl
  |some q=>
   obtain⟨x,y⟩:=q;rw[hc] at h;simp only[List.length_cons] at h;show x::splitN c k y=x::bO c y;rw[ih y (by omega)]
theorem Ny(c:UInt8)(k:Nat)(s:F):1<=(splitN c k s).length:=by
 cases k with
 |zero=>simp[splitN]
 |succ k=>unfold splitN;split<;>simp
theorem xq(c:UInt8):∀(k:Nat) (s:F),s.length<=k->splitN c k s=bO c s:=fun k s h=>xr c k s (by have:=ru c s;omega)
theorem EY{ax:Type}:∀(a:List ax) (i:Nat) (x:ax),i<a.length->(a.set i x).take (i+1)=a.take i++[x]:=by
 intro a;induction a with
 |nil=>intro i x h;simp at h
 |cons b a ih=>
  intro i x h;cases i with
  |zero=>rfl
  |succ i=>
   have:=ih i x (by simpa using h)
   simp only[List.set_cons_succ,List.take_succ_cons,List.cons_append,this]
theorem Rd(c:UInt8)(N:Nat)(eQ:am N):∀(m i:Nat) (s:F) (a:List F),i+m+1=N->a.length=N->am s.length->s.length+i<=1099511627776->
  ∃(aD:F) (j:Nat) (cP:List F),un ((s,([c],((0:Int),(((N-1:Nat):Int),((),((i:Int),())))))),(a,()))=some ((aD,((),((j:Int),()))),(cP,()))/\j<N/\cP.length=N/\(cP.set j aD).take (j+1)=a.take i++splitN c m s:=by
 intro m;induction m with
 |zero=>
  intro i s a hi ha hs _;refine⟨s,i,a,ca ?_,by omega,ha,?_⟩
  ·have:decide ((i:Int)<((N-1:Nat):Int))=false:=decide_eq_false (by omega)
   simp only[xZ,this,cond_false]
  ·rw[EY a i s (by omega)];rfl
 |succ m ih=>
  intro i s a hi ha hs hb;have hlt:decide ((i:Int)<((N-1:Nat):Int))=true:=decide_eq_true (by omega)
  have hx:=O5 c s;have hx:f212 ((s,([c],())),())=some ((Lib.indexByte s c,()),()):=by simp only[f212,hx,Option.bind_some]
  rw[Q'] at hx;cases hc:dj c s with
  |none=>
   rw[hc] at hx;refine⟨s,i,a,ca ?_,by omega,ha,?_⟩
   ·have:decide ((-1:Int)<0)=true:=rfl;simp only[xZ,hlt,cond_true,hx,Option.bind_some,this]
   ·rw[EY a i s (by omega)];simp only[splitN,hc]
  |some q=>
   obtain⟨x,y⟩:=q;rw[hc] at hx;obtain⟨h1,_⟩:=iW hc;have hl:s.length=x.length+1+y.length:=by rw[h1];simp;omega
   obtain⟨aD,j,cP,g1,g2,g3,g4⟩:=ih (i+1) y (a.set i x) (by omega) (by simp[ha]) (by unfold am at hs ⊢;omega) (by omega)
   refine⟨aD,j,cP,?_,g2,g3,?_⟩
   ·refine(du ?_).trans g1;have Z:decide (((x.length:Nat):Int)<0)=false:=decide_eq_false (by omega)
    have O:IntKind.i64.wrap (((x.length:Nat):Int)+0)=((x.length:Nat):Int):=by unfold am at hs;rw[ee (by omega) (by omega)];omega
    have aS:IntKind.i64.wrap (((x.length:Nat):Int)+((([c]:F).length:Nat):Int))=((x.length+1:Nat):Int):=by
     unfold am at hs;rw[ee (by simp;omega) (by simp;omega)];simp
    have e1:bw s 0 ((x.length:Nat):Int)=some x:=by rw[hU (by omega),h1];simp
    have e2:bw s ((x.length+1:Nat):Int) ((s.length:Nat):Int)=some y:=by
     rw[gu (by omega)]
     congr 1
     rw[h1,show x++c::y=(x++[c])++y by simp,List.drop_left' (by simp)]
    have bz:a_ a.length (i:Int)=some i:=fm (by omega)
    have da:a[i]? =some (a[i]'(by omega)):=List.getElem?_eq_getElem (by omega)
    simp only[xZ,hlt,cond_true,hx,Option.bind_some,Z,cond_false,O,e1,bz,da,aS,e2,bK (i:=i) (by unfold am;omega)]
   ·rw[g4,EY a i x (by omega)]
    simp only[splitN,hc,List.append_assoc,List.cons_append,List.nil_append]
theorem ab5(c:UInt8):∀s:F,(bO c s).length=Lib.countByte s c+1:=by
 intro s;induction s with
 |nil=>rfl
 |cons b r ih=>
  unfold bO Lib.countByte;rw[List.count_cons];unfold Lib.countByte at ih;cases hb:b==c with
  |true=>simp[ih]
  |false=>
   simp only[cond_false];have hne:=pz c r;cases hy:bO c r with
   |nil=>exact absurd hy hne
   |cons y bh=>rw[hy] at ih;simpa using ih
theorem acq(c:UInt8)(s:F)(n N:Nat)(hs:s.length<=1000000000)(h1:1<=n)(eQ:min n (s.length+1)=N):
  f167 ((s,([c],((0:Int),((n:Int),())))),())=some ((splitN c (N-1) s,()),()):=by
 have qM:((n:Int)==0)=false:=by rw[beq_eq_false_iff_ne];omega
 have hc0:(([c]:F)==[])=false:=rfl;have hneg:decide ((n:Int)<0)=false:=decide_eq_false (by omega)
 have hw:IntKind.i64.wrap (((s.length:Nat):Int)+1)=((s.length+1:Nat):Int):=by rw[ee (by omega) (by omega)];omega
 have hm:li (n:Int) ((s.length+1:Nat):Int)=(N:Int):=by unfold li;split<;>omega
 have KI:jj 16 (N:Int) (N:Int) ([]:F)=some (List.replicate N []):=sr (by decide) (by unfold am;omega)
 have hw1:IntKind.i64.wrap ((N:Int)-1)=((N-1:Nat):Int):=by rw[ee (by omega) (by omega)];omega
 obtain⟨aD,j,cP,g1,g2,g3,g4⟩:=Rd c N (by unfold am;omega) (N-1) 0 s (List.replicate N []) (by omega) (by simp) (by unfold am;omega) (by omega)
 have g1:un ((s,([c],((0:Int),(((N-1:Nat):Int),((),((0:Int),())))))),(List.replicate N ([]:F),()))=_:=g1;have e1:a_ cP.length (j:Int)=some j:=fm (by omega)
 have e2:cP[j]? =some (cP[j]'(by omega)):=List.getElem?_eq_getElem (by omega)
 have bz:bw (cP.set j aD) 0 ((j+1:Nat):Int)=some (splitN c (N-1) s):=by
  rw[hU (by simp;omega),g4];simp
 simp only[f167,qM,hc0,cond_false,zO,hneg,Option.bind_some,hw,hm,KI,hw1,g1,e1,e2,bK (i:=j) (by unfold am;omega),bz]
theorem NZ(s:F)(hs:s.length<=1000000000):f216 ((s,([32],((5:Int),()))),())=some ((splitN 32 4 s,()),()):=by
 have h:=acq 32 s 5 _ hs (by decide) rfl
 have h:f167 ((s,(([32]:F),((0:Int),((5:Int),())))),())=_:=h;simp only[f216,h,Option.bind_some];congr 3
 by_cases ay:4<=s.length
 ·rw[show min 5 (s.length+1)-1=4 by omega]
 ·rw[xq 32 _ s (by omega),xq 32 4 s (by omega)]
theorem N0(s:F)(hs:s.length<=1000000000):f116 ((s,([32],())),())=some ((bO 32 s,()),()):=by
 have hcs:=ab5 32 s;have hl:=ru 32 s;have qM:((-1:Int)==0)=false:=rfl;have hc0:(([32]:F)==[])=false:=rfl;have hneg:decide ((-1:Int)<0)=true:=rfl;have an1:f211 ((s,(([32]:F),())),())=some (((Lib.countByte s 32:Int),()),()):=rfl;have CA:IntKind.i64.wrap ((Lib.countByte s 32:Int)+1)=(((bO 32 s).length:Nat):Int):=by rw[ee (by omega) (by omega)];omega
 have hw:IntKind.i64.wrap (((s.length:Nat):Int)+1)=((s.length+1:Nat):Int):=by rw[ee (by omega) (by omega)];omega
 generalize eQ:(bO 32 s).length=N at CA hcs hl;have hm:li (N:Int) ((s.length+1:Nat):Int)=(N:Int):=by unfold li;split<;>omega
 have KI:jj 16 (N:Int) (N:Int) ([]:F)=some (List.replicate N []):=sr (by decide) (by unfold am;omega)
 have hw1:IntKind.i64.wrap ((N:Int)-1)=((N-1:Nat):Int):=by rw[ee (by omega) (by omega)];omega
 obtain⟨aD,j,cP,g1,g2,g3,g4⟩:=Rd 32 N (by unfold am;omega) (N-1) 0 s (List.replicate N []) (by omega) (by simp) (by unfold am;omega) (by omega)
 have g1:un ((s,(([32]:F),((0:Int),(((N-1:Nat):Int),((),((0:Int),())))))),(List.replicate N ([]:F),()))=_:=g1;have e1:a_ cP.length (j:Int)=some j:=fm (by omega)
 have e2:cP[j]? =some (cP[j]'(by omega)):=List.getElem?_eq_getElem (by omega)
 have bz:bw (cP.set j aD) 0 ((j+1:Nat):Int)=some (bO 32 s):=by
  rw[hU (by simp;omega),g4,xr 32 (N-1) s (by omega)];simp
 simp only[f116,f167,qM,hc0,cond_false,zO,hneg,cond_true,an1,Option.bind_some,CA,hw,hm,KI,hw1,g1,e1,e2,bK (i:=j) (by unfold am;omega),bz]
end Go.Proofs
namespace Go.Proofs
open Go.Shelf Go.RowKit Go.Lib
variable {P:Program}{ρ:Ren}
abbrev o4(s:ByteArray):Prop:=∀(j:Nat) b,s.data.toList[j]? =some b->b.toNat<128
theorem ag3{r:Int}(h0:128<=r):2<=(Utf8.encode r).size/\∀j (h:j<(Utf8.encode r).size),0<j->128<=((Utf8.encode r)[j]'h).toNat:=by
 unfold Utf8.encode;generalize hc:(if Utf8.valid r then r.toNat else Utf8.runeError)=c
 have hc1:128<=c:=by
  rw[<-hc];split
  ·omega
  ·decide
 simp only[];have k:∀x:Nat,128<=128+x%64/\128+x%64<256:=fun x=>by omega
 repeat' split
 all_goals first|omega|skip
 ·refine⟨by show 2<=2;decide,fun j h hj=>?_⟩
  have hj2:j<2:=h;have:j=1:=by omega
  subst this;show 128<=(UInt8.ofNat (128+c%64)).toNat;rw[UInt8.toNat_ofNat'];have:=k c;omega
 ·refine⟨by show 2<=3;decide,fun j h hj=>?_⟩
  have hj2:j<3:=h;have:j=1\/j=2:=by omega
  rcases this with rfl|rfl
  ·show 128<=(UInt8.ofNat (128+c/64%64)).toNat;rw[UInt8.toNat_ofNat'];have:=k (c/64);omega
  ·show 128<=(UInt8.ofNat (128+c%64)).toNat;rw[UInt8.toNat_ofNat'];have:=k c;omega
 ·refine⟨by show 2<=4;decide,fun j h hj=>?_⟩
  have hj2:j<4:=h;have:j=1\/j=2\/j=3:=by omega
  rcases this with rfl|rfl|rfl
  ·show 128<=(UInt8.ofNat (128+c/4096%64)).toNat;rw[UInt8.toNat_ofNat'];have:=k (c/4096);omega
  ·show 128<=(UInt8.ofNat (128+c/64%64)).toNat;rw[UInt8.toNat_ofNat'];have:=k (c/64);omega
  ·show 128<=(UInt8.ofNat (128+c%64)).toNat;rw[UInt8.toNat_ofNat'];have:=k c;omega
theorem aar{l:List UInt8}{b:UInt8}(h:∀x,x∈l->x.toNat<128)(hb:128<=b.toNat):Lib.indexByte l b=-1:=by
 induction l with
 |nil=>rfl
 |cons x r ih=>
  have h1:=h x List.mem_cons_self;have h2:=ih fun y hy=>h y (List.mem_cons_of_mem _ hy)
  have h3:(x==b)=false:=by
   rw[beq_eq_false_iff_ne];rintro rfl;omega
  unfold Lib.indexByte;rw[h2,h3];rfl
set_option maxHeartbeats 4000000 in
set_option maxRecDepth 1000000 in
theorem Any.aaC(L:Lays.n152 P ρ)(s:ByteArray)(w:World)(ha:o4 s):
  Calls P (ρ.f 152) #[.string s,.int .i32 65533] w fun e w'=>e=.returned (.int .i64 (-1))/\∃pos,w'=w.iter s pos:=by
 have HA:Aside (o4 s):=ha;clear ha;have t3:=L.t3;have a3:=L.a3;have z3:=L.z3;have v3:=L.v3;have t4:=L.t4;have a4:=L.a4;have z4:=L.z4;have v4:=L.v4;have t5:=L.t5;have a5:=L.a5;have z5:=L.z5;have v5:=L.v5;have t9:=L.t9;have a9:=L.a9;have z9:=L.z9;have v9:=L.v9;have t21:=L.t21;have a21:=L.a21;have z21:=L.z21;have v21:=L.v21;go_enter L.f152,Body.n152_ntmps ρ
 go_wp2
 go_loopg [5,6] s.size (fun g _ _ wx=>∃i:Nat,i+g=s.size/\wx=w.iter s i)
 case atStart=>exact⟨0,by omega,rfl⟩
 case round=>
  obtain⟨i,hig,rfl⟩:=hrel;cases gk with
  |zero=>
   obtain rfl:i=s.size:=by omega
   have hnx:=run_next_end (P:=P) w s s.size
   go_wp2
   go_ret
   exact⟨rfl,_,rfl⟩
  |succ g=>
   have hi:i<s.size:=by omega
   obtain⟨x,hx⟩:∃x:UInt8,s[i]'hi=x:=⟨_,rfl⟩;have hxl:s.data.toList[i]? =some x:=by rw[<-hx];exact Lib.data_getElem? s i hi
   have hx128:x.toNat<128:=HA.out i x hxl;have hnx:=fun ty=>run_next_ascii (P:=P) w s i ty hi (by rw[hx];exact hx128)
   rw[hx] at hnx;clear hxl hx;have hne:((x.toNat:Int)==65533)=false:=by rw[beq_eq_false_iff_ne];omega
   go_wp2
   go_roundg g
   case measure=>omega
   case rel=>exact⟨i+1,by omega,rfl⟩
set_option maxHeartbeats 8000000 in
set_option maxRecDepth 1000000 in
theorem Any.aaq(L:Lays.n152 P ρ)(s:ByteArray)(r:Int)(w:World)(h0:128<=r)(h1:r<=2147483647)(hne:r≠65533)(hs:s.size<=1000000)(ha:o4 s):
  Calls P (ρ.f 152) #[.string s,.int .i32 r] w fun e w'=>e=.returned (.int .i64 (-1))/\Below w.heap.size w w':=by
 have HA:Aside (o4 s):=ha;clear ha;have t3:=L.t3;have a3:=L.a3;have z3:=L.z3;have v3:=L.v3;have t4:=L.t4;have a4:=L.a4;have z4:=L.z4;have v4:=L.v4;have t5:=L.t5;have a5:=L.a5;have z5:=L.z5;have v5:=L.v5;have t9:=L.t9;have a9:=L.a9;have z9:=L.z9;have v9:=L.v9;have t21:=L.t21;have a21:=L.a21;have z21:=L.z21;have v21:=L.v21;have e119:∀args w,(callFunc (ρ.f 119) args).run P w=.ok (.enter (ρ.f 119) args) w:=enters_of L.f119 (by kernel_rfl) rfl
 have e137:∀args w,(callFunc (ρ.f 137) args).run P w=.ok (.enter (ρ.f 137) args) w:=enters_of L.f137 (by kernel_rfl) rfl
 have b1:¬(r<128):=by omega
 have b2:(0:Int)<=r:=by omega
 have b3:(r==65533)=false:=by rw[beq_eq_false_iff_ne];exact hne
 obtain⟨hE,hB⟩:=ag3 h0;cases hv:Lib.validRune r with
 |false=>
  go_enter L.f152,Body.n152_ntmps ρ
  go_wp2_with (go_at_fn (ρ.f 119);refine(Any.utf8_ValidRune {L with} _ _).mono ?_;rintro e w' ⟨rfl,hw⟩;rw[hw,hv])
  go_ret
  exact⟨rfl,Below.refl _ _⟩
 |true=>
  have mixed:=L.mixed;have s21:(P.underlying (ρ.t 21)).isSome=true:=by rw[L.t21];rfl
  have hcv:=fun w=>run_convert_int_string (P:=P) w (ρ.t 21) (ρ.t 9) .i32 r s21 L.t9
  have hRs:(Utf8.encode r).size<=4:=encode_size_le r;generalize hR:Utf8.encode r=R at hE hB hcv hRs;clear hR;obtain⟨n,hn⟩:∃n:Nat,R.size=n+1:=⟨R.size-1,by omega⟩
  have hidx:(R.size:Int)-1=(n:Int):=by omega
  go_enter L.f152,Body.n152_ntmps ρ
  go_wp2_with (go_at_fn (ρ.f 119);refine(Any.utf8_ValidRune {L with} _ _).mono ?_;rintro e w' ⟨rfl,hw⟩;rw[hw,hv])
  go_step3
  go_wp2
  refine wp_loop_rounds 1 ?_
  rw[rounds_succ]
  go_wp2
  ·have hlt:(n:Int)<(s.size:Int):=by omega
   have hns:n<s.size:=by omega
   have hnR:n<R.size:=by omega
   have hx:=HA.out n _ (Lib.data_getElem? s n hns);have hy:=hB n hnR (by omega)
   obtain⟨x,hxe⟩:∃x:UInt8,s[n]'hns=x:=⟨_,rfl⟩;obtain⟨y,hye⟩:∃y:UInt8,R[n]'hnR=y:=⟨_,rfl⟩;rw[hxe] at hx;rw[hye] at hy;have g1:=fun w=>run_index_string (P:=P) w (ρ.t 9) s .i64 (n:Int) L.t9
   have g2:=fun w=>run_index_string (P:=P) w (ρ.t 9) R .i64 (n:Int) L.t9
   simp only[show(0:Int)<=(n:Int)/\(n:Int)<(s.size:Int) from⟨by omega,hlt⟩,dif_pos,Int.toNat_natCast,hxe] at g1
   simp only[show(0:Int)<=(n:Int)/\(n:Int)<(R.size:Int) from⟨by omega,by omega⟩,dif_pos,Int.toNat_natCast,hye] at g2
   go_step3
   go_wp2
   go_region_o
   have hxy:((x.toNat:Int)==(y.toNat:Int))=false:=by rw[beq_eq_false_iff_ne];omega
   have hxy':¬x.toNat=y.toNat:=by omega
   go_wp2
   have hsm:indexByte (List.take (s.size-(n+1)) (List.drop (n+1) s.data.toList)) y=-1:=by
    refine aar (fun z hz=>?_) hy
    obtain⟨k,hk⟩:=List.getElem?_of_mem (List.mem_of_mem_drop (List.mem_of_mem_take hz));exact HA.out k z hk
   have hb1:(n:Int)+1<=(s.size:Int):=by omega
   have hb0:(0:Int)<=(n:Int)+1:=by omega
   have hb2:¬((s.size:Int)<(n:Int)+1):=by omega
   have hbn:n+1<=s.size:=by omega
   have hsl1:∀w,(Instr.slice (ρ.t 9) (.string s) (some (.int .i64 ((n:Int)+1))) none none).run P w=.ok (.string (s.extract (n+1) s.size)) w:=fun w=>by
    rw[run_slice_string_from_if w (ρ.t 9) s .i64 _ L.t9,if_pos ⟨by omega,by omega⟩]
    rfl
   have hw1:IntKind.i64.wrap ((n:Int)+1)=(n:Int)+1:=by rw[IntKind.wrap_i64];omega
   have hsl2:∀w,(Instr.slice (ρ.t 9) (.string s) (some (.int .i64 (IntKind.i64.wrap ((n:Int)+1)))) none none).run P w=.ok (.string (s.extract (n+1) s.size)) w:=fun w=>by rw[hw1];exact hsl1 w
   go_region_with_o (go_at_fn (ρ.f 137);refine(Any.strings_IndexByte {L with} _ _ _).mono ?_;rintro e w' ⟨rfl,hw⟩;rw[hw])
   go_wp2
   rw[Exit.noGoto_ret];simp only[Exit.inBlock,Exit.then]
   rw[Exit.noGoto_ret];simp only[Exit.inBlock,Exit.then]
   go_ret
   exact⟨rfl,(Below.refl _ _).drew.drew⟩
  ·rw[Exit.noGoto_ret];go_ret
   exact⟨rfl,Below.refl _ _⟩
theorem ab4(s:ByteArray)(pos:Nat)(h:pos<s.size)(ha:128<=(s[pos]'h).toNat):∀j,j<(Utf8.decode s pos).2->pos+j<s.size/\∀b,s.data.toList[pos+j]? =some b->128<=b.toNat:=by
 have g:∀k (hk:pos+k<s.size) b,s.data.toList[pos+k]? =some b->s.get! (pos+k)=b:=fun k hk b hb=>by
  have e:=Lib.data_getElem? s (pos+k) hk;rw[hb] at e;have:=get_at s (pos+k) hk;rw[Nat.add_zero] at this;rw[this];exact(Option.some.inj e).symm
 have z:∀b,s.data.toList[pos+0]? =some b->128<=b.toNat:=fun b hb=>by
  have e:=Lib.data_getElem? s pos h;rw[Nat.add_zero,e] at hb;rw[<-Option.some.inj hb];exact ha
 have c:∀k,(decide (pos+k<s.size)&&(s.get! (pos+k)).toNat/64==2)=true->pos+k<s.size/\∀b,s.data.toList[pos+k]? =some b->128<=b.toNat:=fun k hk=>by
  simp only[Bool.and_eq_true,decide_eq_true_eq,beq_iff_eq] at hk;refine⟨hk.1,fun b hb=>?_⟩
  have:=g k hk.1 b hb;rw[this] at hk;omega
 have one:∀j,j<1->pos+j<s.size/\∀b,s.data.toList[pos+j]? =some b->128<=b.toNat:=fun j hj=>by
  obtain rfl:j=0:=by omega
  exact⟨h,z⟩
 have hn:¬(s[pos]'h).toNat<128:=by omega
 simp only[Utf8.decode,get_at s pos h,hn,if_false];split
 ·rename_i h2;simp only[Bool.and_eq_true] at h2;have c1:=c 1 (by simpa using h2.2)
  split
  ·intro j hj;have:j=0\/j=1:=by simp only at hj;omega
   rcases this with rfl|rfl
   ·exact⟨h,z⟩
   ·exact c1
  ·exact one
 ·split
  ·rename_i h2;simp only[Bool.and_eq_true] at h2;have c1:=c 1 (by simpa using h2.1.2)
   have c2:=c 2 (by simpa using h2.2)
   split
   ·intro j hj;have:j=0\/j=1\/j=2:=by simp only at hj;omega
    rcases this with rfl|rfl|rfl
    ·exact⟨h,z⟩
    ·exact c1
    ·exact c2
   ·exact one
  ·split
   ·rename_i h2;simp only[Bool.and_eq_true] at h2;have c1:=c 1 (by simpa using h2.1.1.2)
    have c2:=c 2 (by simpa using h2.1.2)
    have c3:=c 3 (by simpa using h2.2)
    split
    ·intro j hj;have:j=0\/j=1\/j=2\/j=3:=by simp only at hj;omega
     rcases this with rfl|rfl|rfl|rfl
     ·exact⟨h,z⟩
     ·exact c1
     ·exact c2
     ·exact c3
    ·exact one
   ·exact one
theorem Any.aba(L:Lays.n152 P ρ)(s:ByteArray)(r:Int)(w:World)(h0:128<=r)(h1:r<=2147483647)(hs:s.size<=1000000)(ha:o4 s):
  Calls P (ρ.f 152) #[.string s,.int .i32 r] w fun e w'=>e=.returned (.int .i64 (-1))/\Below w.heap.size w w':=by
 by_cases hne:r=65533
 ·subst hne;exact(Any.aaC L s w ha).mono fun e w' ⟨h,pos,h2⟩=>⟨h,h2▸(Below.refl _ _).alloc (Nat.le_refl _) _⟩
 ·exact Any.aaq L s r w h0 h1 hne hs ha
set_option maxHeartbeats 8000000 in
set_option maxRecDepth 1000000 in
theorem Any.aai(L:Lays.n153 P ρ)(s chars:ByteArray)(w:World)(h2:2<=chars.size)(h8:s.size<=8)(hcs:chars.size<=1000000)(hac:o4 chars):
  Calls P (ρ.f 153) #[.string s,.string chars] w fun e w'=>e=.returned (.int .i64 (Lib.indexAny s.data.toList chars.data.toList))/\Below w.heap.size w w':=by
 have HA:Aside (o4 chars):=hac;clear hac;have hemp:chars.toList.isEmpty=false:=by
  rw[Lib.toList_data];cases h:chars.data.toList with
  |nil=>have:=Lib.size_eq chars;rw[h,List.length_nil] at this;omega
  |cons _ _=>rfl
 have hn1:((chars.size:Int)==1)=false:=beq_eq_false_iff_ne.2 (by omega)
 have h8z:decide ((8:Int)<(s.size:Int))=false:=decide_eq_false (by omega)
 have t3:=L.t3;have a3:=L.a3;have z3:=L.z3;have v3:=L.v3;have t4:=L.t4;have a4:=L.a4;have z4:=L.z4;have v4:=L.v4;have t5:=L.t5;have a5:=L.a5;have z5:=L.z5;have v5:=L.v5;have t9:=L.t9;have a9:=L.a9;have z9:=L.z9;have v9:=L.v9;have t21:=L.t21;have a21:=L.a21;have z21:=L.z21;have v21:=L.v21;have e152:∀args w,(callFunc (ρ.f 152) args).run P w=.ok (.enter (ρ.f 152) args) w:=enters_of L.f152 (by kernel_rfl) rfl
 have e226:∀args w,(callFunc (ρ.f 226) args).run P w=.ok (.enter (ρ.f 226) args) w:=enters_of L.f226 (by kernel_rfl) rfl
 go_enter L.f153,Body.n153_ntmps ρ
 go_wp2_with (go_at_fn (ρ.f 226);refine(Any.strings_shouldUseASCIISet {L with} _ _).mono ?_;rintro e w' ⟨rfl,hw⟩;rw[hw,h8z])
 go_loopg [9,10] s.size (fun g _ _ wx=>∃i:Nat,i<=s.size/\s.size-i<=g/\wx.heap[w.heap.size]? =some (.stringIter s i)/\Aside (Below w.heap.size w wx)/\Aside (Lib.NoAny s.data.toList chars.data.toList i))
 case atStart=>exact⟨0,by omega,by omega,World.iter_heap _ _ _,(Below.refl _ _).alloc (Nat.le_refl _) _,Lib.NoAny.zero _ _⟩
 case round=>
  obtain⟨i,hi,hg,hk,pr,HN⟩:=hrel;by_cases hlt:i<s.size
  ·obtain⟨x,hx⟩:∃x:UInt8,s[i]'hlt=x:=⟨_,rfl⟩;have hxl:s.data.toList[i]? =some x:=by rw[<-hx];exact Lib.data_getElem? s i hlt
   have Hx:Aside (s.data.toList[i]? =some x):=hxl;have hkl:=(Array.getElem?_eq_some_iff.1 hk).1;by_cases hx128:x.toNat<128
   ·have hnx:=fun ty=>run_next_ascii_at (P:=P) _ w.heap.size s i ty hk hlt (by rw[hx];exact hx128)
    rw[hx] at hnx;have hio:=iterAt_heap _ w.heap.size s i (i+1) hk;have hbo:Aside (Below w.heap.size w _):=below_iterAt pr.out (Nat.le_refl _) s (i+1);clear hxl hx;have hcon:=Lib.contains_iff_indexByte chars.data.toList x;have hback:((x.toNat:Int)).toNat.toUInt8=x:=by simp
    cases hin:chars.data.toList.contains x
    ·rw[hin] at hcon;have hlt2:¬((0:Int)<=Lib.indexByte chars.data.toList x):=of_decide_eq_false hcon.symm;clear hcon
     go_wp2_with (go_at_fn (ρ.f 152);refine(Any.strings_IndexRune_ascii {L with} _ _ _ (by omega) (by omega)).mono ?_;rintro e w' ⟨rfl,hw⟩;rw[hw,hback])
     go_roundg (s.size-(i+1))
     case measure=>omega
     case rel=>exact⟨i+1,by omega,by omega,hio,hbo,HN.out.succ Hx.out hin⟩
    ·rw[hin] at hcon;have hge:(0:Int)<=Lib.indexByte chars.data.toList x:=of_decide_eq_true hcon.symm;clear hcon
     go_wp2_with (go_at_fn (ρ.f 152);refine(Any.strings_IndexRune_ascii {L with} _ _ _ (by omega) (by omega)).mono ?_;rintro e w' ⟨rfl,hw⟩;rw[hw,hback])
     go_ret
     exact⟨by rw[Lib.indexAny_hit HN.out Hx.out hin];rfl,hbo.out⟩
   ·have hhi:128<=(s[i]'hlt).toNat:=by rw[hx];omega
    have hnx:=fun ty=>run_next_any_at (P:=P) _ w.heap.size s i ty hk hlt
    have hd1:=decode_high s i hlt hhi;have hd2:=decode_le s i;have hsk:Aside (∀j,j<(Utf8.decode s i).2->i+j<s.size/\∀b,s.data.toList[i+j]? =some b->128<=b.toNat):=ab4 s i hlt hhi;generalize(Utf8.decode s i).1=c at hnx hd1 hd2;generalize(Utf8.decode s i).2=d at hnx hd1 hsk;have hle:i+d<=s.size:=by
     have:=(hsk.out (d-1) (by omega)).1
     omega
    have hio:=iterAt_heap _ w.heap.size s i (i+d) hk;have hbo:Aside (Below w.heap.size w _):=below_iterAt pr.out (Nat.le_refl _) s (i+d);have hno:Aside (Lib.NoAny s.data.toList chars.data.toList (i+d)):=fun j b hj hb=>by
     by_cases hji:j<i
     ·exact HN.out j b hji hb
     ·have h3:=(hsk.out (j-i) (by omega)).2 b (by rw[show i+(j-i)=j by omega];exact hb)
      cases hc:chars.data.toList.contains b with
      |false=>rfl
      |true=>
       have hm:b∈chars.data.toList:=by simpa using hc
       obtain⟨k,hk2⟩:=List.getElem?_of_mem hm;have:=HA.out k b hk2;omega
    have hneg:¬((0:Int)<=-1):=by decide
    have hc0:(128:Int)<=(c:Int):=by omega
    have hc1:((c:Nat):Int)<=2147483647:=by omega
    clear hxl hx
    go_wp2_with (go_at_fn (ρ.f 152);refine(Any.aba {L with} _ _ _ hc0 hc1 hcs HA.out).mono ?_;rintro e w' ⟨rfl,hbw⟩)
    go_roundg (s.size-(i+d))
    case measure=>omega
    case rel=>exact⟨i+d,hle,by omega,(hbw.block _ (by simpa[iterAt_size] using hkl)).trans hio,hbo.out.trans (hbw.mono (by rw[iterAt_size];omega)),hno.out⟩
  ·obtain rfl:i=s.size:=by omega
   have hnx:=fun ty=>run_next_end_at (P:=P) _ w.heap.size s s.size ty hk (by omega)
   go_wp2
   go_ret
   exact⟨by rw[Lib.indexAny_none (by rw[<-Lib.size_eq];exact HN.out)];rfl,pr.out⟩
theorem Any.abc(L:Lays.n153 P ρ)(h116:(P.info? (ρ.t 116)).map (fun i=>(i.zero,i.size))=some (some (.agg (Array.replicate 256 (.bool false))),256))(s chars:ByteArray)(w:World)(hs:s.size<4294967281)(h2:2<=chars.size)(hcs:chars.size<=1000000)(hac:o4 chars):
  Calls P (ρ.f 153) #[.string s,.string chars] w fun e w'=>e=.returned (.int .i64 (Lib.indexAny s.data.toList chars.data.toList))/\Below w.heap.size w w':=by
 by_cases h8:s.size<=8
 ·exact Any.aai L s chars w h2 h8 hcs hac
 ·refine(Any.strings_IndexAny_long L (zero_of_info h116).1 (zero_of_info h116).2 s chars w h2 (by omega) hs (by omega) hac).mono fun e w' ⟨h1,h2⟩=>⟨h1,?_⟩
  rw[h2];exact((Below.refl _ _).alloc (Nat.le_refl _) _).alloc (by simp) _
end Go.Proofs
namespace Go.Proofs
open Go.Jk
noncomputable def Tn:aF:=DL
theorem ak0:aE U 214 Tn:=ae0 (fun _ _=>enters_of Tryz.func214 (by kernel_rfl) rfl _ _) fun s p w h1 h2 h3 ay=>Any.abc Tryz.aiI (by kernel_rfl) s p w h1 h2 h3 ay
noncomputable abbrev aoV:bg:=[(102,vW),(214,Tn),(215,Wh)]
theorem Xm:aW U (bd ah aoV):=bc ⟨BN,ak0,amr,⟨⟩⟩
abbrev QK:Shape:=⟨[ap 0,aM 2 2 0,aM 4 4 0],[aO 2 [ae,br,ae],aO 4 [ae,br,ae]],49⟩
abbrev Qq:List aN:=[(.norm,⟨[aM 2 2 0,aM 4 4 0],[aO 2 [ae,br,ae],aO 4 [ae,br,ae]],49⟩),(.ret,⟨[aM 2 2 0,ar 3],[aO 2 [ae,br,ae]],49⟩)]
noncomputable def mv(y:QK.J):Option (aw Qq):=
(qi y.1.1 ([61,60,62]:F)).bind fun a=>
 bif(decide ((Lib.indexAny y.1.1 ([61,60,62]:F))>=(0:Int))) then
(bw y.1.1 (0:Int) (Lib.indexAny y.1.1 ([61,60,62]:F))).bind fun b=>
(bw y.1.1 (Lib.indexAny y.1.1 ([61,60,62]:F)) (y.1.1.length:Int)).bind fun c=>
(f215 ((c,([62,61]:F),()),())).bind fun d=>
 bif d.1.1 then
(bw c (2:Int) (c.length:Int)).bind fun e=>
 some (.inl (((),(),()),(y.2.1.1,y.2.1.2.1,y.2.1.2.2.1,()),(b,(2:Int),e,()),()))
else
(aP c (0:Int)).bind fun f=>
 bif((f.toNat:Int)==(61:Int)) then
(bw c (1:Int) (c.length:Int)).bind fun g=>
 some (.inl (((),(),()),(y.2.1.1,y.2.1.2.1,y.2.1.2.2.1,()),(b,(1:Int),g,()),()))
else
(aP c (0:Int)).bind fun h=>
 bif((h.toNat:Int)==(60:Int)) then
(bw c (1:Int) (c.length:Int)).bind fun i=>
 some (.inl (((),(),()),(y.2.1.1,y.2.1.2.1,y.2.1.2.2.1,()),(b,(3:Int),i,()),()))
else
 some (.inr (((),false,()),(([]:F),(0:Int),([]:F),()),()))
else
 some (.inl (((),(),()),(y.2.1.1,y.2.1.2.1,y.2.1.2.2.1,()),(y.2.2.1.1,y.2.2.1.2.1,y.2.2.1.2.2.1,()),()))
theorem aib:aT U (an (codeOf Tryz.f169) 1 14) (a6 QK Qq mv):=cQ Xm (by kernel_rfl) af fun y=>by kernel_rfl
abbrev i169:Shape:=⟨[ap 0],[],49⟩
abbrev UH:Shape:=⟨[aM 2 2 0,ar 3],[aO 2 [ae,br,ae]],49⟩
noncomputable def f169(a:i169.J):Option UH.J:=
(mv ((a.1.1,(),(),()),(([]:F),(0:Int),([]:F),()),(a.1.1,(0:Int),([]:F),()),())).bind fun b=>
(match b with
|.inl c=>
(f102 (((c.2.2.1.1,c.2.2.1.2.1,c.2.2.1.2.2.1,()),()),())).bind fun d=>
 bif(!d.1.1) then
 some (((),false,()),(([]:F),(0:Int),([]:F),()),())
else
 some (((),true,()),(c.2.2.1.1,c.2.2.1.2.1,c.2.2.1.2.2.1,()),())
|.inr e=>
 some (((),e.1.2.1,()),(e.2.1.1,e.2.1.2.1,e.2.1.2.2.1,()),()))
noncomputable def WF:aF:=aK ah Tryz.f169 i169 UH [] f169
theorem amJ:aE U 169 WF:=aL Xm Tryz.func169 (by kernel_rfl) (bb aib af) (fun y=>by kernel_rfl) fun a=>by kernel_rfl
def eJ:F:=[61,60,62]
theorem O2:∀s:F,((∀y,y∈s->eJ.contains y=false)/\Lib.indexAny s eJ=-1)\/∃a x r,s=a++x::r/\eJ.contains x=true/\(∀y,y∈a->eJ.contains y=false)/\Lib.indexAny s eJ=(a.length:Int):=by
 intro s;induction s with
 |nil=>exact .inl ⟨fun y h=>(by cases h),rfl⟩
 |cons b l ih=>
  unfold Lib.indexAny;cases hb:eJ.contains b with
  |true=>exact .inr ⟨[],b,l,rfl,hb,fun y h=>(by cases h),rfl⟩
  |false=>
   rcases ih with⟨h1,h2⟩|⟨a,x,r,h1,h2,h3,ay⟩
   ·refine .inl ⟨fun y hy=>?_,?_⟩
    ·rcases List.mem_cons.1 hy with rfl|hy
     ·exact hb
     ·exact h1 y hy
    ·rw[h2];simp
   ·refine .inr ⟨b::a,x,r,by rw[h1];rfl,h2,fun y hy=>?_,?_⟩
    ·rcases List.mem_cons.1 hy with rfl|hy
     ·exact hb
     ·exact h3 y hy
    ·rw[ay];have:((a.length:Int)==-1)=false:=by rw[beq_eq_false_iff_ne];omega
     simp[this]
theorem aja{a r:F}{x:UInt8}(ha:∀y,y∈a->eJ.contains y=false)(hx:eJ.contains x=true):Lib.indexAny (a++x::r) eJ=(a.length:Int):=by
 induction a with
 |nil=>show Lib.indexAny (x::r) eJ=_;unfold Lib.indexAny;rw[hx];rfl
 |cons b a ih=>
  show Lib.indexAny (b::(a++x::r)) eJ=_;unfold Lib.indexAny;have hb:=ha b List.mem_cons_self;rw[hb,ih fun y hy=>ha y (List.mem_cons_of_mem _ hy)]
  have:((a.length:Int)==-1)=false:=by rw[beq_eq_false_iff_ne];omega
  simp[this]
theorem akG{s:F}(h:∀y,y∈s->eJ.contains y=false):Lib.indexAny s eJ=-1:=by
 rcases O2 s with⟨_,h2⟩|⟨a,x,r,h1,h2,_,_⟩
 ·exact h2
 ·have:=h x (by rw[h1];simp)
  rw[h2] at this;cases this
theorem ahi{s:F}(h:s.length<=1000000):qi s ([61,60,62]:F)=some ():=by
 unfold qi;exact if_pos ⟨by omega,by decide,by decide,by decide⟩
def oI(a t:F):Option bB:=match t with
 |62::61::r=>some ⟨a,2,r⟩
 |61::r=>some ⟨a,1,r⟩
 |60::r=>some ⟨a,3,r⟩
 |_=>none
def kl(s:F):Option bB:=match Lib.indexAny s eJ with
 |.ofNat k=>oI (s.take k) (s.drop k)
 |_=>some ⟨s,0,[]⟩
def eB(s:F):Option bB:=match kl s with
 |some n=>bif dv n then some n else none
 |none=>none
def h':bB:=⟨[],0,[]⟩
theorem N1(s:F)(hs:s.length<=1000000):f169 ((s,()),())=some (((),((eB s).isSome,())),((((eB s).getD h').name,(((eB s).getD h').kind,(((eB s).getD h').aU,()))),())):=by
 have hk:∀n:bB,n.name.length<=1000000->n.aU.length<=1000000->f102 (((n.name,(n.kind,(n.aU,()))),()),())=some ((dv n,()),()):=fun n h1 h2=>
  xG (((n.name,(n.kind,(n.aU,()))),()),()) (by show n.name.length<=2097152;omega) (by show n.aU.length<=2097152;omega)
 have fin:∀n:bB,n.name.length<=1000000->n.aU.length<=1000000->kl s=some n->
   mv ((s,((),((),()))),((([]:F),((0:Int),(([]:F),()))),((s,((0:Int),(([]:F),()))),())))=some (.inl (((),((),())),((([]:F),((0:Int),(([]:F),()))),((n.name,(n.kind,(n.aU,()))),()))))->
   f169 ((s,()),())=some (((),((eB s).isSome,())),((((eB s).getD h').name,(((eB s).getD h').kind,(((eB s).getD h').aU,()))),())):=by
  intro n h1 h2 hr hg;have tx:=hk n h1 h2;have hG:eB s=bif dv n then some n else none:=by unfold eB;rw[hr]
  simp only[f169,hg,Option.bind_some,tx,hG];cases dv n<;>rfl
 have dR:qi s ([61,60,62]:F)=some ():=ahi hs;rcases O2 s with⟨_,h2⟩|⟨a,x,r,h1,h2,h3,ay⟩
 ·refine fin ⟨s,0,[]⟩ hs (by simp) (by unfold kl;rw[h2];rfl) ?_
  have h2:Lib.indexAny s ([61,60,62]:F)=-1:=h2;have Z:decide ((-1:Int)>=0)=false:=rfl;simp only[mv,dR,Option.bind_some,h2,Z,cond_false]
 ·have n7:Lib.indexAny s ([61,60,62]:F)=(a.length:Int):=ay;have Z:decide ((a.length:Int)>=0)=true:=decide_eq_true (by omega)
  have hl:s.length=a.length+(x::r).length:=by rw[h1];simp
  have e1:bw s 0 ((a.length:Nat):Int)=some a:=by rw[hU (by omega),h1];simp
  have e2:bw s ((a.length:Nat):Int) ((s.length:Nat):Int)=some (x::r):=by rw[gu (by omega),h1];simp
  have hp:=aaR (x::r) [62,61];have nV:aP (x::r) (0:Int)=some x:=rfl;have dI:kl s=oI a (x::r):=by
   unfold kl;rw[ay];have d1:s.drop a.length=x::r:=by rw[h1];simp
   have d2:s.take a.length=a:=by rw[h1];simp
   show oI (s.take a.length) (s.drop a.length)=_;rw[d1,d2]
  have no:kl s=none->mv ((s,((),((),()))),((([]:F),((0:Int),(([]:F),()))),((s,((0:Int),(([]:F),()))),())))=some (.inr (((),(false,())),((([]:F),((0:Int),(([]:F),()))),())))->
    f169 ((s,()),())=some (((),((eB s).isSome,())),((((eB s).getD h').name,(((eB s).getD h').kind,(((eB s).getD h').aU,()))),())):=by
   intro hr hg;simp only[f169,hg,Option.bind_some];unfold eB;rw[hr];rfl
  have hx:x=61\/x=60\/x=62:=by simpa[eJ] using h2
  have tF:a.length<=1000000:=by omega
  have mU:r.length<=1000000:=by simp at hl;omega
  rcases hx with rfl|rfl|rfl
  ·have hn:dK [62,61] (61::r)=none:=by unfold dK;cases r<;>simp
   rw[hn] at hp;refine fin ⟨a,1,r⟩ tF mU dI ?_
   have bz:bw (61::r) 1 (((61::r).length:Nat):Int)=some r:=gu (xs:=61::r) (a:=1) (by simp)
   have t1:((((61:UInt8).toNat:Nat):Int)==61)=true:=rfl;simp only[mv,dR,Option.bind_some,n7,Z,cond_true,e1,e2,hp,Option.isSome_none,cond_false,nV,t1,bz]
  ·have hn:dK [62,61] (60::r)=none:=by unfold dK;cases r<;>simp
   rw[hn] at hp;refine fin ⟨a,3,r⟩ tF mU dI ?_
   have bz:bw (60::r) 1 (((60::r).length:Nat):Int)=some r:=gu (xs:=60::r) (a:=1) (by simp)
   have t1:((((60:UInt8).toNat:Nat):Int)==61)=false:=rfl;have t2:((((60:UInt8).toNat:Nat):Int)==60)=true:=rfl;simp only[mv,dR,Option.bind_some,n7,Z,cond_true,e1,e2,hp,Option.isSome_none,cond_false,nV,t1,t2,bz]
  ·have t1:((((62:UInt8).toNat:Nat):Int)==61)=false:=rfl;have t2:((((62:UInt8).toNat:Nat):Int)==60)=false:=rfl;cases r with
   |nil=>
    have hn:dK [62,61] ([62]:F)=none:=by decide
    rw[hn] at hp;refine no dI ?_
    simp only[mv,dR,Option.bind_some,n7,Z,cond_true,e1,e2,hp,Option.isSome_none,cond_false,nV,t1,t2]
   |cons b r=>
    by_cases hb:b=61
    ·subst hb;have hn:dK [62,61] (62::61::r)=some r:=uu [62,61] r;rw[hn] at hp;refine fin ⟨a,2,r⟩ tF (by simp at mU;show r.length<=1000000;omega) dI ?_
     have bz:bw (62::61::r) 2 (((62::61::r).length:Nat):Int)=some r:=gu (xs:=62::61::r) (a:=2) (by simp)
     simp only[mv,dR,Option.bind_some,n7,Z,cond_true,e1,e2,hp,Option.isSome_some,bz]
    ·have hn:dK [62,61] (62::b::r)=none:=by
      have hb2:(b==61)=false:=by simpa using hb
      unfold dK;simp[hb2]
     rw[hn] at hp;refine no (dI.trans ?_) ?_
     ·unfold oI;split
      ·rename_i h;simp at h;exact absurd h.1 hb
      ·rename_i h;simp at h
      ·rename_i h;simp at h
      ·rfl
     ·simp only[mv,dR,Option.bind_some,n7,Z,cond_true,e1,e2,hp,Option.isSome_none,cond_false,nV,t1,t2]
theorem Pv{s:F}(h:∀x,x∈s->(97<=x.toNat/\x.toNat<=122)\/(48<=x.toNat/\x.toNat<=57)):∀y,y∈s->eJ.contains y=false:=by
 intro y hy;have:=h y hy;cases hc:eJ.contains y with
 |false=>rfl
 |true=>
  have hx:y=61\/y=60\/y=62:=by simpa[eJ] using hc
  rcases hx with rfl|rfl|rfl<;>simp at this
theorem aec{n:bB}(h:dv n=true):kl (cK n)=some n:=by
 obtain⟨h1,h2⟩:=xk h;have hno:=Pv (Dt h1);obtain⟨bE,k,v⟩:=n;have key:∀(x:UInt8) (t:F),eJ.contains x=true->kl (bE++x::t)=oI bE (x::t):=by
  intro x t hx;unfold kl;rw[aja hno hx];have d1:(bE++x::t).drop bE.length=x::t:=by simp
  have d2:(bE++x::t).take bE.length=bE:=by simp
  show oI ((bE++x::t).take bE.length) ((bE++x::t).drop bE.length)=_;rw[d1,d2]
 rcases h2 with⟨hk,hv⟩|⟨hk,hv⟩
 ·have hk:k=0:=hk;have hv:v=[]:=hv;subst hk hv;have e:cK ⟨bE,0,[]⟩=bE:=by unfold cK dB;simp
  rw[e];unfold kl;rw[akG hno];rfl
 ·rcases hk with hk|hk|hk
  ·have hk:k=1:=hk;subst hk;have e:cK ⟨bE,1,v⟩=bE++61::v:=by unfold cK dB;simp
   rw[e,key 61 v (by decide)];rfl
  ·have hk:k=2:=hk;subst hk;have e:cK ⟨bE,2,v⟩=bE++62::61::v:=by unfold cK dB;simp
   rw[e,key 62 (61::v) (by decide)];rfl
  ·have hk:k=3:=hk;subst hk;have e:cK ⟨bE,3,v⟩=bE++60::v:=by unfold cK dB;simp
   rw[e,key 60 v (by decide)];rfl
theorem agU{n:bB}(h:dv n=true):eB (cK n)=some n:=by
 unfold eB;rw[aec h];simp[h]
noncomputable abbrev aoU:bg:=[(114,vU),(115,B9),(216,Wg)]
theorem Ce:aW U (bd ah aoU):=bc ⟨BM,IB,amq,⟨⟩⟩
abbrev QJ:Shape:=⟨[aM 2 2 0,ap 3,ar 4,ap 6,ar 7,aH 8 .str],[aO 2 [ae,br,br,ae]],110⟩
abbrev Qp:List aN:=[(.norm,⟨[aM 2 2 0,ap 3,ar 4,ap 6,aH 8 .str,ar 26],[aO 2 [ae,br,br,ae]],110⟩)]
noncomputable def uT(y:QJ.J):Option (aw Qp):=
 bif(!(!y.1.2.2.2.2.1)) then
 some (((),y.1.2.1,y.1.2.2.1,y.1.2.2.2.1,y.1.2.2.2.2.2.1,(decide ((y.1.2.2.2.2.2.1.length:Int)<(3:Int))),()),(y.2.1.1,y.2.1.2.1,y.2.1.2.2.1,y.2.1.2.2.2.1,()),())
else
 some (((),y.1.2.1,y.1.2.2.1,y.1.2.2.2.1,y.1.2.2.2.2.2.1,true,()),(y.2.1.1,y.2.1.2.1,y.2.1.2.2.1,y.2.1.2.2.2.1,()),())
theorem aia:aT U (an (codeOf Tryz.f170) 1 60) (a6 QJ Qp uT):=cQ Ce (by kernel_rfl) af fun y=>by kernel_rfl
abbrev On:Shape:=⟨[aM 2 2 0,ap 3,ar 4,ap 6,aH 8 .str,ad 9],[aO 2 [ae,br,br,ae]],110⟩
abbrev N7:List aN:=[(.norm,⟨[aM 2 2 0,ap 3,ar 4,ap 6,aH 8 .str,ad 9,ar 74],[aO 2 [ae,br,br,ae]],110⟩)]
noncomputable def Et(y:On.J):Option (aw N7):=
(aP y.1.2.2.2.2.1 (0:Int)).bind fun a=>
 bif(!(!(a==([102,105,108,101]:F)))) then
 some (((),y.1.2.1,y.1.2.2.1,y.1.2.2.2.1,y.1.2.2.2.2.1,y.1.2.2.2.2.2.1,((y.1.2.2.2.2.1.length:Int) !=(4:Int)),()),(y.2.1.1,y.2.1.2.1,y.2.1.2.2.1,y.2.1.2.2.2.1,()),())
else
 some (((),y.1.2.1,y.1.2.2.1,y.1.2.2.2.1,y.1.2.2.2.2.1,y.1.2.2.2.2.2.1,true,()),(y.2.1.1,y.2.1.2.1,y.2.1.2.2.1,y.2.1.2.2.2.1,()),())
theorem aeo:aT U (an (codeOf Tryz.f170) 1 2044) (a6 On N7 Et):=cQ Ce (by kernel_rfl) af fun y=>by kernel_rfl
abbrev Om:Shape:=⟨[aM 2 2 0,ap 3,ar 4,ap 6,aH 8 .str,ad 9,ar 10,ad 11],[aO 2 [ae,br,br,ae]],110⟩
abbrev N6:List aN:=[(.norm,⟨[aM 2 2 0,ap 3,ar 4,ap 6,aH 8 .str,ad 9,ad 11,ar 96],[aO 2 [ae,br,br,ae]],110⟩)]
noncomputable def Es(y:Om.J):Option (aw N6):=
 bif(!(!y.1.2.2.2.2.2.2.1)) then
 bif(!(decide ((y.1.2.2.2.1.length:Int)<=y.1.2.2.2.2.2.2.2.1))) then
(aP y.1.2.2.2.1 y.1.2.2.2.2.2.2.2.1).bind fun a=>
 some (((),y.1.2.1,y.1.2.2.1,y.1.2.2.2.1,y.1.2.2.2.2.1,y.1.2.2.2.2.2.1,y.1.2.2.2.2.2.2.2.1,((a.toNat:Int) !=(10:Int)),()),(y.2.1.1,y.2.1.2.1,y.2.1.2.2.1,y.2.1.2.2.2.1,()),())
else
 some (((),y.1.2.1,y.1.2.2.1,y.1.2.2.2.1,y.1.2.2.2.2.1,y.1.2.2.2.2.2.1,y.1.2.2.2.2.2.2.2.1,true,()),(y.2.1.1,y.2.1.2.1,y.2.1.2.2.1,y.2.1.2.2.2.1,()),())
else
 some (((),y.1.2.1,y.1.2.2.1,y.1.2.2.2.1,y.1.2.2.2.2.1,y.1.2.2.2.2.2.1,y.1.2.2.2.2.2.2.2.1,true,()),(y.2.1.1,y.2.1.2.1,y.2.1.2.2.1,y.2.1.2.2.2.1,()),())
theorem aen:aT U (an (codeOf Tryz.f170) 1 8188) (a6 Om N6 Es):=cQ Ce (by kernel_rfl) af fun y=>by kernel_rfl
abbrev i170:Shape:=⟨[ap 0],[],110⟩
abbrev IR:Shape:=⟨[aM 2 2 0,ap 3,ar 4],[aO 2 [ae,br,br,ae]],110⟩
noncomputable def f170(a:i170.J):Option IR.J:=
(f114 ((a.1.1,([10]:F),()),())).bind fun b=>
(f216 ((b.1.1,([32]:F),(5:Int),()),())).bind fun c=>
(uT (((),([]:F),false,b.1.2.1,b.1.2.2.1,c.1.1,()),(([]:F),(0:Int),(0:Int),([]:F),()),())).bind fun d=>
 bif d.1.2.2.2.2.2.1 then
 some (((),([]:F),false,()),(([]:F),(0:Int),(0:Int),([]:F),()),())
else
(aP d.1.2.2.2.2.1 (0:Int)).bind fun e=>
 bif(e==([108,105,110,107]:F)) then
(aP d.1.2.2.2.2.1 (1:Int)).bind fun f=>
(aP d.1.2.2.2.2.1 (2:Int)).bind fun g=>
 some (((),d.1.2.2.2.1,((d.1.2.2.2.2.1.length:Int)==(3:Int)),()),(f,(3:Int),(0:Int),g,()),())
else
(aP d.1.2.2.2.2.1 (1:Int)).bind fun h=>
(f115 ((h,(7:Int),()),())).bind fun i=>
 bif(!i.1.2.1) then
 some (((),([]:F),false,()),(([]:F),(0:Int),(0:Int),([]:F),()),())
else
(aP d.1.2.2.2.2.1 (0:Int)).bind fun j=>
 bif(j==([100,105,114]:F)) then
(aP d.1.2.2.2.2.1 (2:Int)).bind fun k=>
 some (((),d.1.2.2.2.1,((d.1.2.2.2.2.1.length:Int)==(3:Int)),()),(k,(1:Int),i.1.1,([]:F),()),())
else
(Et (((),d.1.2.1,d.1.2.2.1,d.1.2.2.2.1,d.1.2.2.2.2.1,i.1.1,()),(d.2.1.1,d.2.1.2.1,d.2.1.2.2.1,d.2.1.2.2.2.1,()),())).bind fun l=>
 bif l.1.2.2.2.2.2.2.1 then
 some (((),([]:F),false,()),(([]:F),(0:Int),(0:Int),([]:F),()),())
else
(aP l.1.2.2.2.2.1 (3:Int)).bind fun m=>
(f115 ((m,(80:Int),()),())).bind fun n=>
(Es (((),l.1.2.1,l.1.2.2.1,l.1.2.2.2.1,l.1.2.2.2.2.1,l.1.2.2.2.2.2.1,n.1.2.1,n.1.1,()),(l.2.1.1,l.2.1.2.1,l.2.1.2.2.1,l.2.1.2.2.2.1,()),())).bind fun B=>
 bif B.1.2.2.2.2.2.2.2.1 then
 some (((),([]:F),false,()),(([]:F),(0:Int),(0:Int),([]:F),()),())
else
(aP B.1.2.2.2.2.1 (2:Int)).bind fun p=>
(bw B.1.2.2.2.1 (0:Int) B.1.2.2.2.2.2.2.1).bind fun q=>
(bw B.1.2.2.2.1 (IntKind.i64.wrap (B.1.2.2.2.2.2.2.1+(1:Int))) (B.1.2.2.2.1.length:Int)).bind fun r=>
 some (((),r,true,()),(p,(2:Int),B.1.2.2.2.2.2.1,q,()),())
noncomputable def WE:aF:=aK ah Tryz.f170 i170 IR [] f170
theorem amI:aE U 170 WE:=aL Ce Tryz.func170 (by kernel_rfl) (bb aia (bb aeo (bb aen af))) (fun y=>by kernel_rfl) fun a=>by kernel_rfl
def Bm(aS w2 cq r:F):Option (aC×F):=bif e_ 80 cq then(match r.drop (c_ cq).toNat with|10::ey=>some (⟨w2,2,c_ aS,r.take (c_ cq).toNat⟩,ey)|_=>none) else none
def jz(ws:List F)(r:F):Option (aC×F):=match ws with
 |O::aS::w2::more=>
  bif O==hC then(bif more==[] then some (⟨aS,3,0,w2⟩,r) else none)
  else bif e_ 7 aS then
   (bif O==hH then(bif more==[] then some (⟨w2,1,c_ aS,[]⟩,r) else none)
   else bif O==hZ then(match more with|[cq]=>Bm aS w2 cq r|_=>none) else none)
  else none
 |_=>none
def mC(s:F):Option (aC×F):=match dj 10 s with
 |some (bT,r)=>jz (splitN 32 4 bT) r
 |none=>none
theorem acf{m:Int}{s:F}(h:e_ m s=true):0<=c_ s/\c_ s<=m:=by
 unfold e_ at h;simp only[Bool.and_eq_true,decide_eq_true_eq] at h;refine⟨?_,h.2⟩;have key:∀(s:F) (n:Int),s.all cL=true->0<=n->0<=s.foldl dU n:=by
  intro s;induction s with
  |nil=>intro n _ h;exact h
  |cons b s ih=>
   intro n Z hn;simp only[List.all_cons,Bool.and_eq_true] at Z;have hb:=iz Z.1;refine ih _ Z.2 ?_
   unfold dU;omega
 exact key s 0 h.1.1.1.1 (by decide)
theorem pw(c:UInt8):∀(k:Nat) (s p:F),p∈splitN c k s->p.length<=s.length:=by
 intro k;induction k with
 |zero=>intro s p h;simp[splitN] at h;subst h;exact Nat.le_refl _
 |succ k ih=>
  intro s p h;unfold splitN at h;cases hc:dj c s with
  |none=>rw[hc] at h;simp at h;subst h;exact Nat.le_refl _
  |some q=>
   obtain⟨x,y⟩:=q;rw[hc] at h;have hl:=(iW hc).1;have hl:s.length=x.length+1+y.length:=by rw[hl];simp;omega
   rcases List.mem_cons.1 h with rfl|h
   ·omega
   ·have:=ih y p h;omega
theorem anx{ax:Type}(a b c:ax)(l:List ax):decide (((a::b::c::l).length:Int)<3)=false:=decide_eq_false (by simp;omega)
theorem asP{ax:Type}[BEq ax](a b c:ax)(l:List ax):(((a::b::c::l).length:Int)==3)=(l==[]):=by
 cases l with
 |nil=>rfl
 |cons x l=>
  have h:((x::l)==([]:List ax))=false:=rfl;rw[h,beq_eq_false_iff_ne];simp;omega
theorem MU(s:F)(hs:s.length<=1000000):∃(r:F) (e:aC),f170 ((s,()),())=some (((),(r,((mC s).isSome,()))),((e.path,(e.kind,(e.mode,(e.text,())))),()))/\∀q,mC s=some q->q=(e,r):=by
 have hc:=mA 10 s (by unfold am;omega)
 have hc:f114 ((s,(([10]:F),())),())=_:=hc;have zero:∀{B:Option (aC×F)} {x:Option IR.J},B=none->x=some (((),(([]:F),(false,()))),((([]:F),((0:Int),((0:Int),(([]:F),())))),()))->
   ∃(r:F) (e:aC),x=some (((),(r,(B.isSome,()))),((e.path,(e.kind,(e.mode,(e.text,())))),()))/\∀q,B=some q->q=(e,r):=by
  intro B x aG hx;subst aG;exact⟨[],⟨[],0,0,[]⟩,hx,fun q au=>by cases au⟩
 cases au:dj 10 s with
 |none=>
  have hw:=NZ (gS 10 s) (by unfold gS;rw[au];show s.length<=1000000000;omega)
  rw[au] at hc;refine zero (by unfold mC;rw[au]) ?_
  simp only[f170,hc,Option.bind_some,hw,uT,Option.isSome_none,Bool.not_false,Bool.not_true,cond_false,cond_true]
 |some q=>
  obtain⟨bT,rest⟩:=q;have hl:=(iW au).1;have hl:s.length=bT.length+1+rest.length:=by rw[hl];simp;omega
  have ha:gS 10 s=bT:=by unfold gS;rw[au]
  have hb:gR 10 s=rest:=by unfold gR;rw[au]
  have hw:=NZ bT (by omega)
  rw[au,ha,hb] at hc;have hr:mC s=jz (splitN 32 4 bT) rest:=by unfold mC;rw[au]
  have hm:=pw 32 4 bT;rw[hr];generalize splitN 32 4 bT=ws at hw hm;have short:decide ((ws.length:Int)<3)=true->jz ws rest=none->∃(r:F) (e:aC),f170 ((s,()),())=some (((),(r,((jz ws rest).isSome,()))),((e.path,(e.kind,(e.mode,(e.text,())))),()))/\∀q,jz ws rest=some q->q=(e,r):=by
   intro h1 h2;refine zero h2 ?_
   simp only[f170,hc,Option.bind_some,hw,uT,Option.isSome_some,Bool.not_false,Bool.not_true,cond_false,cond_true,h1]
  match ws,short,hw,hm with
  |[],short,hw,hm=>exact short rfl rfl
  |[_],short,hw,hm=>exact short rfl rfl
  |[_,_],short,hw,hm=>exact short rfl rfl
  |O::aS::w2::more,_,hw,hm=>
   have e4:aP (O::aS::w2::more) (0:Int)=some O:=rfl;have dX:aP (O::aS::w2::more) (1:Int)=some aS:=rfl;have fJ:aP (O::aS::w2::more) (2:Int)=some w2:=rfl;have h3:=anx O aS w2 more;have cV:=asP O aS w2 more;have m1:=hm aS (by simp)
   have n1:=xE aS 7 (by unfold am;omega)
   simp only[f170,hc,Option.bind_some,hw,uT,Option.isSome_some,Bool.not_false,Bool.not_true,cond_false,cond_true,h3,e4,dX,fJ,cV,n1];unfold jz;have Bw:(O==([108,105,110,107]:F))=(O==hC):=rfl;have vN:(O==([100,105,114]:F))=(O==hH):=rfl;have sO:(O==([102,105,108,101]:F))=(O==hZ):=rfl;simp only[Bw,vN];cases eT:O==hC with
   |true=>
    simp only[cond_true];refine⟨rest,⟨aS,3,0,w2⟩,?_,fun q au=>?_⟩
    ·cases more==[]<;>rfl
    ·cases KH:more==[]<;>rw[KH] at au<;>simp at au
     exact au.symm
   |false=>
    simp only[cond_false];cases Dc:e_ 7 aS with
    |false=>
     simp only[Bool.not_false,cond_true,cond_false];exact zero rfl rfl
    |true=>
     simp only[Bool.not_true,cond_true,cond_false];cases Dd:O==hH with
     |true=>
      simp only[cond_true];refine⟨rest,⟨w2,1,c_ aS,[]⟩,?_,fun q au=>?_⟩
      ·cases more==[]<;>rfl
      ·cases KH:more==[]<;>rw[KH] at au<;>simp at au
       exact au.symm
     |false=>
      simp only[cond_false,Et,e4,Option.bind_some,sO];cases awV:O==hZ with
      |false=>
       simp only[Bool.not_false,Bool.not_true,cond_true,cond_false,Option.bind_some];exact zero rfl rfl
      |true=>
       simp only[Bool.not_false,Bool.not_true,cond_true,cond_false,Option.bind_some];match more,hm,e4,dX,fJ,h3,cV,hw with
       |[],hm,e4,dX,fJ,h3,cV,hw=>exact zero rfl rfl
       |cq::q5::m,hm,e4,dX,fJ,h3,cV,hw=>
        have:((((O::aS::w2::cq::q5::m).length:Nat):Int) !=4)=true:=by rw[bne_iff_ne];simp;omega
        simp only[this,cond_true];exact zero rfl rfl
       |[cq],hm,e4,dX,fJ,h3,cV,hw=>
        have ay:(((([O,aS,w2,cq]:List F).length:Nat):Int) !=4)=false:=rfl;have jp:aP [O,aS,w2,cq] (3:Int)=some cq:=rfl;have m3:=hm cq (by simp)
        have ix:=xE cq 80 (by unfold am;omega)
        simp only[ay,cond_false,jp,Option.bind_some,ix,Es];unfold Bm;cases L1:e_ 80 cq with
        |false=>
         simp only[Bool.not_false,Bool.not_true,cond_true,cond_false,Option.bind_some];exact zero rfl rfl
        |true=>
         obtain⟨b1,b2⟩:=acf L1;obtain⟨n,hn⟩:=Int.eq_ofNat_of_zero_le b1;simp only[Bool.not_false,Bool.not_true,cond_true,cond_false,Option.bind_some,hn,Int.toNat_natCast];rw[hn] at b2;by_cases hle:rest.length<=n
         ·have d1:decide (((rest.length:Nat):Int)<=(n:Int))=true:=decide_eq_true (by omega)
          have d2:rest.drop n=[]:=List.drop_eq_nil_of_le hle;simp only[d1,Bool.not_true,cond_false,Option.bind_some,cond_true,d2];exact zero rfl rfl
         ·have d1:decide (((rest.length:Nat):Int)<=(n:Int))=false:=decide_eq_false (by omega)
          obtain⟨b,ey,Z⟩:∃b ey,rest.drop n=b::ey:=by
           cases h:rest.drop n with
           |nil=>have:=List.drop_eq_nil_iff.1 h;omega
           |cons b ey=>exact⟨b,ey,rfl⟩
          have ar6:aP rest (n:Int)=some b:=by
           rw[bQ];have:rest[n]? =(rest.drop n)[0]? :=by simp
           rw[this,Z];rfl
          simp only[d1,Bool.not_false,cond_true,ar6,Option.bind_some,Z];by_cases K5:b=10
          ·subst K5;have t:((((10:UInt8).toNat:Nat):Int) !=10)=false:=rfl;have s1:bw rest 0 (n:Int)=some (rest.take n):=hU (by omega)
           have hw1:IntKind.i64.wrap ((n:Int)+1)=((n+1:Nat):Int):=bK (by unfold am;omega)
           have dp:rest.drop (n+1)=ey:=by rw[<-List.drop_drop,Z];rfl
           have s2:bw rest ((n+1:Nat):Int) ((rest.length:Nat):Int)=some ey:=by rw[gu (by omega),dp]
           simp only[t,cond_false,s1,hw1,s2,Option.bind_some];exact⟨ey,⟨w2,2,c_ aS,rest.take n⟩,rfl,fun q au=>by simp at au;exact au.symm⟩
          ·have t:(((b.toNat:Nat):Int) !=10)=true:=by
            rw[bne_iff_ne];intro h;exact K5 (UInt8.toNat_inj.1 (by show b.toNat=10;omega))
           simp only[t,cond_true];refine zero ?_ rfl;split
           ·rename_i h;cases h;exact absurd rfl K5
           ·rfl
noncomputable abbrev app:bg:=[(105,vV),(170,WE)]
theorem JU:aW U (bd ah app):=bc ⟨z105,amI,⟨⟩⟩
abbrev Ov:Shape:=⟨[bf 4 3000256,aM 6 6 0,ap 7,ar 8],[be 3000256 .entry 4 0,aO 6 [ae,br,br,ae]],34⟩
abbrev Oa:List aN:=[(.norm,⟨[bf 4 3000256,aM 6 6 0,ap 7,ar 24],[be 3000256 .entry 4 0,aO 6 [ae,br,br,ae]],34⟩)]
noncomputable def rI(y:Ov.J):Option (aw Oa):=
 bif(!(!y.1.2.2.2.1)) then
 some (((),(),y.1.2.2.1,((y.2.1.length:Int)==(16:Int)),()),y.2.1,(y.2.2.1.1,y.2.2.1.2.1,y.2.2.1.2.2.1,y.2.2.1.2.2.2.1,()),())
else
 some (((),(),y.1.2.2.1,true,()),y.2.1,(y.2.2.1.1,y.2.2.1.2.1,y.2.2.1.2.2.1,y.2.2.1.2.2.2.1,()),())
theorem aey:aT U (an (c8 (an (codeOf Tryz.f118) 1 60)) 120 3860) (a6 Ov Oa rI):=cQ JU (by kernel_rfl) af fun y=>by kernel_rfl
abbrev zn:Shape:=⟨[bf 4 3000256,ap 5],[be 3000256 .entry 4 0],34⟩
abbrev Gd:List aN:=[(.ret,⟨[bf 2 3000128,ar 3],[be 3000128 .entry 2 0],34⟩),(.exit 0,⟨[bf 4 3000256],[be 3000256 .entry 4 0],34⟩)]
noncomputable def p0(y:zn.J):bJ zn Gd:=
 bif(!(y.1.2.1==([]:F))) then
(f170 ((y.1.2.1,()),())).bind fun a=>
(rI (((),(),a.1.2.1,a.1.2.2.1,()),y.2.1,(a.2.1.1,a.2.1.2.1,a.2.1.2.2.1,a.2.1.2.2.2.1,()),())).bind fun b=>
 bif b.1.2.2.2.1 then
 some (.inr (.inl (((),false,()),([]:List aC),())))
else
(cy 48 b.2.1 ([(aC.mk b.2.2.1.1 b.2.2.1.2.1 b.2.2.1.2.2.1 b.2.2.1.2.2.2.1)]:List aC)).bind fun c=>
 some (.inl (((),b.1.2.2.1,()),c,()))
else
 some (.inr (.inr (((),()),y.2.1,())))
noncomputable def uP:zn.J->Option (aw Gd):=bn p0
theorem ait:aT U (an (codeOf Tryz.f118) 1 60) (a6 zn Gd uP):=bN JU (by kernel_rfl) (bb aey af) fun y=>by kernel_rfl
abbrev i118:Shape:=⟨[ap 0],[],34⟩
abbrev Vc:Shape:=⟨[bf 2 3000128,ar 3],[be 3000128 .entry 2 0],34⟩
noncomputable def f118(a:i118.J):Option Vc.J:=
(uP (((),a.1.1,()),([]:List aC),())).bind fun b=>
(match b with
|.inl c=>
 some (((),c.1.2.1,()),c.2.1,())
|.inr d=>
(f105 ((d.2.1,()),())).bind fun e=>
 bif(!e.1.1) then
 some (((),false,()),([]:List aC),())
else
 some (((),true,()),d.2.1,()))
noncomputable def W7:aF:=aK ah Tryz.f118 i118 Vc [] f118
theorem amX:aE U 118 W7:=aL JU Tryz.func118 (by kernel_rfl) (bb ait af) (fun y=>by kernel_rfl) fun a=>by kernel_rfl
theorem E3{n:Nat}{m:Int}(h:(n:Int)<=m)(hQ:n<1000000000):e_ m (Lib.itoa (n:Int))=true/\c_ (Lib.itoa (n:Int))=(n:Int):=by
 rw[pK];exact⟨agD h hQ,Hd n⟩
theorem MJ(ws:List F)(k:Nat)(h:ws≠[])(hn:∀w,w∈ws->b9 32 w)(hk:ws.length<=k+1):splitN 32 k (k_ ws)=ws:=by
 have:=NK h hn;rw[xr 32 k _ (by rw[this];exact hk),this]
theorem OA{e:aC}(h:eK e=true)(r:F):mC (d_ e++r)=some (e,r):=by
 have hw:=(DU h).1;unfold mC;rw[OI h];show jz (splitN 32 4 (oK e)) (vk e r)=_;obtain⟨n,hn,iy⟩:=E4 h;obtain⟨g1,g2⟩:=E3 (n:=n) (m:=7) (by omega) (by omega)
 have qE:splitN 32 4 (oK e)=lN e:=MJ _ 4 (by unfold lN;cases e.kind==1<;>cases e.kind==3<;>simp) hw (by unfold lN;cases e.kind==1<;>cases e.kind==3<;>simp)
 rw[qE];obtain⟨p,k,m,t⟩:=e;have hn:m=n:=hn;subst hn;rcases uj h with hk|hk|hk
 ·have hk:k=1:=hk;subst hk;have aq:t=[]:=OT h rfl;subst aq;show jz [hH,Lib.itoa (n:Int),p] r=_;unfold jz;have e1:(hH==hC)=false:=by decide
  have e2:(hH==hH)=true:=by decide
  simp only[e1,e2,g1,g2,cond_true,cond_false];rfl
 ·have hk:k=2:=hk;subst hk;have hb:t.length<=80:=by
   have:=NO h rfl;unfold kg at this;simp only[Bool.and_eq_true,decide_eq_true_eq] at this;exact this.2
  obtain⟨aB,aA⟩:=E3 (n:=t.length) (m:=80) (by omega) (by omega)
  show jz [hZ,Lib.itoa (n:Int),p,Lib.itoa (t.length:Int)] (t++10::r)=_;unfold jz;have e1:(hZ==hC)=false:=by decide
  have e2:(hZ==hH)=false:=by decide
  have bz:(hZ==hZ)=true:=by decide
  simp only[e1,e2,bz,g1,g2,cond_true,cond_false];unfold Bm;have d1:(t++10::r).drop t.length=10::r:=by simp
  have d2:(t++10::r).take t.length=t:=by simp
  simp only[aB,aA,cond_true,Int.toNat_natCast,d1,d2,g2]
 ·have hk:k=3:=hk;subst hk;obtain⟨_,hm⟩:=DR h rfl;have hm:(n:Int)=0:=hm;show jz [hC,p,t] r=_;unfold jz;have e1:(hC==hC)=true:=by decide
  simp only[e1,cond_true];rw[hm];rfl
theorem D'{s r:F}{e:aC}(h:mC s=some (e,r)):e.path.length<=s.length/\e.text.length<=s.length/\r.length<s.length:=by
 unfold mC at h;cases au:dj 10 s with
 |none=>rw[au] at h;cases h
 |some q=>
  obtain⟨bT,rest⟩:=q;rw[au] at h;have hl:=(iW au).1;have hl:s.length=bT.length+1+rest.length:=by rw[hl];simp;omega
  have hm:=pw 32 4 bT;have h:jz (splitN 32 4 bT) rest=some (e,r):=h;generalize splitN 32 4 bT=ws at h hm;match ws,h,hm with
  |[],h,hm=>cases h
  |[_],h,hm=>cases h
  |[_,_],h,hm=>cases h
  |O::aS::w2::more,h,hm=>
   have m1:=hm aS (by simp)
   have m2:=hm w2 (by simp)
   unfold jz at h;simp only at h;cases eT:O==hC<;>simp only[eT,cond_true,cond_false] at h
   ·cases e1:e_ 7 aS<;>simp only[e1,cond_true,cond_false] at h
    ·cases h
    ·cases e2:O==hH<;>simp only[e2,cond_true,cond_false] at h
     ·cases bz:O==hZ<;>simp only[bz,cond_true,cond_false] at h
      ·cases h
      ·split at h
       ·rename_i cq;unfold Bm at h;cases da:e_ 80 cq<;>simp only[da,cond_true,cond_false] at h
        ·cases h
        ·split at h
         ·rename_i ey Z;simp only[Option.some.injEq,Prod.mk.injEq] at h;obtain⟨rfl,rfl⟩:=h;have KK:=congrArg List.length Z;simp only[List.length_drop,List.length_cons] at KK;refine⟨by show w2.length<=_;omega,by show(rest.take _).length<=_;simp;omega,by omega⟩
         ·cases h
       ·cases h
     ·cases bz:more==[]<;>simp only[bz,cond_true,cond_false] at h
      ·cases h
      ·simp only[Option.some.injEq,Prod.mk.injEq] at h;obtain⟨rfl,rfl⟩:=h;exact⟨by show w2.length<=_;omega,by show 0<=_;omega,by omega⟩
   ·cases bz:more==[]<;>simp only[bz,cond_true,cond_false] at h
    ·cases h
    ·simp only[Option.some.injEq,Prod.mk.injEq] at h;obtain⟨rfl,rfl⟩:=h;exact⟨by show aS.length<=_;omega,by show w2.length<=_;omega,by omega⟩
def o5(k:Nat)(t:List aC):Prop:=∀e,e∈t->e.path.length<=k/\e.text.length<=k
theorem ajx:∀(m:Nat) (s:F) (t:List aC),s.length<=m->m<=1000000->t.length<=16->o5 1000000 t->
  (∃ns:List aC,uP (((),(s,())),(t,()))=some (.inr (((),()),(ns,())))/\ns.length<=16/\o5 1000000 ns)\/uP (((),(s,())),(t,()))=some (.inl (((),(false,())),(([]:List aC),()))):=by
 intro m;induction m with
 |zero=>
  intro s t hs _ aq ha;have:s=[]:=List.length_eq_zero_iff.1 (by omega)
  subst this;exact .inl ⟨t,ca rfl,aq,ha⟩
 |succ m ih=>
  intro s t hs hm aq ha;cases s with
  |nil=>exact .inl ⟨t,ca rfl,aq,ha⟩
  |cons b fq=>
   have hne:((b::fq)==([]:F))=false:=rfl;generalize ez:b::fq=s at hs hne;obtain⟨r,e,h1,h2⟩:=MU s (by omega)
   cases hr:mC s with
   |none=>
    rw[hr] at h1;refine .inr (ca ?_);simp only[p0,hne,Bool.not_false,cond_true,h1,Option.bind_some,Option.isSome_none,rI,Bool.not_true,cond_false]
   |some q=>
    have au:=h2 q hr;subst au;rw[hr] at h1;obtain⟨ec,gC,wY⟩:=D' hr;by_cases wM:t.length=16
    ·refine .inr (ca ?_);have d:(((t.length:Nat):Int)==16)=true:=by rw[beq_iff_eq];omega
     simp only[p0,hne,Bool.not_false,cond_true,h1,Option.bind_some,Option.isSome_some,rI,Bool.not_true,cond_false,d]
    ·have d:(((t.length:Nat):Int)==16)=false:=by rw[beq_eq_false_iff_ne];omega
     have fe:cy 48 t ([(aC.mk e.path e.kind e.mode e.text)]:List aC)=some (t++[e]):=dS (by decide) (by unfold am;simp;omega)
     have st:p0 (((),(s,())),(t,()))=some (.inl (((),(r,())),(t++[e],()))):=by
      simp only[p0,hne,Bool.not_false,cond_true,h1,Option.bind_some,Option.isSome_some,rI,Bool.not_true,cond_false,d,fe]
     have aoi:o5 1000000 (t++[e]):=fun x hx=>by
      rcases List.mem_append.1 hx with hx|hx
      ·exact ha x hx
      ·rw[List.mem_singleton.1 hx];exact⟨by omega,by omega⟩
     rcases ih r (t++[e]) (by omega) (by omega) (by simp;omega) aoi with⟨ns,g1,g2,g3⟩|g1
     ·exact .inl ⟨ns,(du st).trans g1,g2,g3⟩
     ·exact .inr ((du st).trans g1)
theorem ajw:∀(ce t:List aC),(∀e,e∈ce->eK e=true)->t.length+ce.length<=16->(dd ce).length<=1000000->
  uP (((),(dd ce,())),(t,()))=some (.inr (((),()),(t++ce,()))):=by
 intro ce;induction ce with
 |nil=>intro t _ _ _;rw[List.append_nil];exact ca rfl
 |cons e ce ih=>
  intro t h aq hl;have he:=h e List.mem_cons_self;have hr:=OA he (dd ce);have hE:dd (e::ce)=d_ e++dd ce:=by unfold dd;rw[List.flatMap_cons]
  rw[hE] at hl ⊢;have hlen:=(D' hr).2.2;have hne:((d_ e++dd ce)==([]:F))=false:=by
   cases hx:d_ e++dd ce with
   |nil=>rw[hx] at hlen;simp at hlen
   |cons b r=>rfl
  obtain⟨r,cE,h1,h2⟩:=MU (d_ e++dd ce) hl;have au:=h2 _ hr;simp only[Prod.mk.injEq] at au;obtain⟨rfl,rfl⟩:=au;rw[hr] at h1;have d:(((t.length:Nat):Int)==16)=false:=by rw[beq_eq_false_iff_ne];simp at aq;omega
  have fe:cy 48 t ([(aC.mk e.path e.kind e.mode e.text)]:List aC)=some (t++[e]):=dS (by decide) (by unfold am;simp;simp at aq;omega)
  have st:p0 (((),(d_ e++dd ce,())),(t,()))=some (.inl (((),(dd ce,())),(t++[e],()))):=by
   simp only[p0,hne,Bool.not_false,cond_true,h1,Option.bind_some,Option.isSome_some,rI,Bool.not_true,cond_false,d,fe]
  have:=ih (t++[e]) (fun x hx=>h x (List.mem_cons_of_mem _ hx)) (by simp at aq ⊢;omega) (by omega)
  rw[List.append_assoc] at this;exact(du st).trans this
theorem aan(s:F)(hs:s.length<=1000000):∃(ok:Bool) (t:List aC),f118 ((s,()),())=some (((),(ok,())),(t,()))/\t.length<=16/\o5 1000000 t:=by
 rcases ajx s.length s [] (Nat.le_refl _) hs (by decide) (fun x hx=>by cases hx) with⟨ns,g1,g2,g3⟩|g1
 ·have aq:=py ((ns,()),()) ⟨by show ns.length<=2097152;omega,fun e he=>by have:=g3 e he;exact⟨by show e.path.length<=2097152;omega,by show e.text.length<=2097152;omega⟩⟩
  have aq:f105 ((ns,()),())=some ((dJ ns,()),()):=aq;simp only[f118,g1,Option.bind_some,aq];cases dJ ns with
  |false=>exact⟨false,[],rfl,by simp,fun x hx=>by cases hx⟩
  |true=>exact⟨true,ns,rfl,g2,g3⟩
 ·simp only[f118,g1,Option.bind_some];exact⟨false,[],rfl,by simp,fun x hx=>by cases hx⟩
theorem aam(t:List aC)(h:dJ t=true)(hs:(dd t).length<=1000000)(hb:is t):
  f118 ((dd t,()),())=some (((),(true,())),(t,())):=by
 have g1:=ajw t [] (ug h) (by have:=jt h;simpa using this) hs
 have aq:=py ((t,()),()) hb;have aq:f105 ((t,()),())=some ((dJ t,()),()):=aq;simp only[f118,g1,List.nil_append,Option.bind_some,aq,h,Bool.not_true,cond_false]
noncomputable abbrev apq:bg:=[(114,vU),(168,WG),(169,WF)]
theorem JV:aW U (bd ah apq):=bc ⟨BM,z168,amJ,⟨⟩⟩
abbrev Ow:Shape:=⟨[bf 5 3000320,ap 7,ar 10,aM 11 11 0,ar 12],[be 3000320 .need 5 0,aO 11 [ae,br,ae]],46⟩
abbrev Ob:List aN:=[(.norm,⟨[bf 5 3000320,ap 7,aM 11 11 0,ar 40],[be 3000320 .need 5 0,aO 11 [ae,br,ae]],46⟩)]
noncomputable def ur(y:Ow.J):Option (aw Ob):=
 bif(!(!y.1.2.2.1)) then
 some (((),y.1.2.1,(),(!y.1.2.2.2.2.1),()),y.2.1,(y.2.2.1.1,y.2.2.1.2.1,y.2.2.1.2.2.1,()),())
else
 some (((),y.1.2.1,(),true,()),y.2.1,(y.2.2.1.1,y.2.2.1.2.1,y.2.2.1.2.2.1,()),())
theorem aez:aT U (an (c8 (an (codeOf Tryz.f117) 1 14)) 28 7292) (a6 Ow Ob ur):=cQ JV (by kernel_rfl) af fun y=>by kernel_rfl
abbrev zo:Shape:=⟨[ap 0,bf 5 3000320],[be 3000320 .need 5 0],46⟩
abbrev Ge:List aN:=[(.ret,⟨[bf 2 3000128,ap 3,ar 4],[be 3000128 .need 2 0],46⟩)]
noncomputable def lL(y:zo.J):bJ zo Ge:=
(f114 ((y.1.1,([10]:F),()),())).bind fun a=>
 bif(!a.1.2.2.1) then
 some (.inr (((),([]:F),false,()),([]:List bB),()))
else
 bif(a.1.1==([]:F)) then
 some (.inr (((),a.1.2.1,true,()),y.2.1,()))
else
(f168 ((a.1.1,([110,101,101,100,32]:F),()),())).bind fun b=>
(f169 ((b.1.1,()),())).bind fun c=>
(ur (((),a.1.2.1,b.1.2.1,(),c.1.2.1,()),y.2.1,(c.2.1.1,c.2.1.2.1,c.2.1.2.2.1,()),())).bind fun d=>
 bif d.1.2.2.2.1 then
 some (.inr (((),([]:F),false,()),([]:List bB),()))
else
(cy 40 d.2.1 ([(bB.mk d.2.2.1.1 d.2.2.1.2.1 d.2.2.1.2.2.1)]:List bB)).bind fun e=>
 some (.inl ((d.1.2.1,(),()),e,()))
noncomputable def zz:zo.J->Option (aw Ge):=bn lL
theorem aiu:aT U (an (codeOf Tryz.f117) 1 14) (a6 zo Ge zz):=bN JV (by kernel_rfl) (bb aez af) fun y=>by kernel_rfl
abbrev i117:Shape:=⟨[ap 0],[],46⟩
abbrev Vd:Shape:=⟨[bf 2 3000128,ap 3,ar 4],[be 3000128 .need 2 0],46⟩
noncomputable def f117(a:i117.J):Option Vd.J:=
(zz ((a.1.1,(),()),([]:List bB),())).bind fun b=>
 some (((),b.1.2.1,b.1.2.2.1,()),b.2.1,())
noncomputable def W8:aF:=aK ah Tryz.f117 i117 Vd [] f117
theorem z117:aE U 117 W8:=aL JV Tryz.func117 (by kernel_rfl) (bb aiu af) (fun y=>by kernel_rfl) fun a=>by kernel_rfl
def td(k:Nat)(t:List bB):Prop:=∀e,e∈t->e.name.length<=k/\e.aU.length<=k
theorem aeb{a t:F}{n:bB}(h:oI a t=some n):n.name=a/\n.aU.length<=t.length:=by
 unfold oI at h;split at h
 ·cases h;exact⟨rfl,by simp;omega⟩
 ·cases h;exact⟨rfl,by simp⟩
 ·cases h;exact⟨rfl,by simp⟩
 ·cases h
theorem aed{s:F}{n:bB}(h:kl s=some n):n.name.length<=s.length/\n.aU.length<=s.length:=by
 unfold kl at h;split at h
 ·rename_i k _;obtain⟨h1,h2⟩:=aeb h;rw[h1];simp at h2 ⊢;omega
 ·cases h;exact⟨Nat.le_refl _,by simp⟩
theorem agV(s:F):((eB s).getD h').name.length<=s.length/\((eB s).getD h').aU.length<=s.length:=by
 have no:eB s=none->((eB s).getD h').name.length<=s.length/\((eB s).getD h').aU.length<=s.length:=fun h=>by
  rw[h];exact⟨Nat.zero_le _,Nat.zero_le _⟩
 cases h:kl s with
 |none=>exact no (by unfold eB;rw[h])
 |some n=>
  have hG:eB s=bif dv n then some n else none:=by unfold eB;rw[h]
  cases hk:dv n with
  |true=>rw[hG,hk];exact aed h
  |false=>exact no (by rw[hG,hk];rfl)
theorem OV{p s r:F}(h:dK p s=some r):r.length<=s.length:=by
 unfold dK at h;cases hc:decide (p.length<=s.length)&&s.take p.length==p with
 |false=>rw[hc] at h;cases h
 |true=>rw[hc] at h;cases h;simp
theorem agW(p s:F):((dK p s).getD s).length<=s.length:=by
 cases h:dK p s with
 |none=>exact Nat.le_refl _
 |some r=>exact OV h
theorem ajC:∀(m:Nat) (s:F) (t:List bB),s.length<=m->t.length+m<=1000000->td 1000000 t->
  ∃(r:F) (ok:Bool) (ns:List bB),zz ((s,((),())),(t,()))=some (((),(r,(ok,()))),(ns,()))/\r.length<=s.length/\ns.length<=1000000/\td 1000000 ns:=by
 intro m;induction m with
 |zero=>
  intro s t hs aq ha;have:s=[]:=List.length_eq_zero_iff.1 (by omega)
  subst this;have hc:=mA 10 [] (by unfold am;simp)
  have hc:f114 ((([]:F),(([10]:F),())),())=some ((([]:F),(([]:F),(false,()))),()):=hc;refine⟨[],false,[],ca ?_,by simp,by simp,fun x hx=>by cases hx⟩
  simp only[lL,hc,Option.bind_some,Bool.not_false,cond_true]
 |succ m ih=>
  intro s t hs aq ha;have hc:=mA 10 s (by unfold am;omega)
  have hc:f114 ((s,(([10]:F),())),())=_:=hc;cases au:dj 10 s with
  |none=>
   rw[au] at hc;refine⟨[],false,[],ca ?_,by simp,by simp,fun x hx=>by cases hx⟩
   simp only[lL,hc,Option.bind_some,Option.isSome_none,Bool.not_false,cond_true]
  |some q=>
   obtain⟨bT,rest⟩:=q;have hl:=(iW au).1;have hl:s.length=bT.length+1+rest.length:=by rw[hl];simp;omega
   have dR:gS 10 s=bT:=by unfold gS;rw[au]
   have hB:gR 10 s=rest:=by unfold gR;rw[au]
   rw[au,dR,hB] at hc;cases he:bT==([]:F) with
   |true=>
    refine⟨rest,true,t,ca ?_,by omega,by omega,ha⟩
    simp only[lL,hc,Option.bind_some,Option.isSome_some,Bool.not_true,cond_false,he,cond_true]
   |false=>
    have hp:=MY bT [110,101,101,100,32];have hp:f168 ((bT,(([110,101,101,100,32]:F),())),())=_:=hp;have bo:=agW [110,101,101,100,32] bT;generalize(dK [110,101,101,100,32] bT).getD bT=w at hp bo;have hn:=N1 w (by omega)
    have CH:=agV w;cases cc:(dK [110,101,101,100,32] bT).isSome&&(eB w).isSome with
    |false=>
     refine⟨[],false,[],ca ?_,by simp,by simp,fun x hx=>by cases hx⟩
     simp only[lL,hc,Option.bind_some,Option.isSome_some,Bool.not_true,cond_false,he,hp,hn,ur];cases iy:(dK [110,101,101,100,32] bT).isSome with
     |false=>simp only[Bool.not_false,Bool.not_true,cond_false,cond_true,Option.bind_some]
     |true=>
      rw[iy] at cc;have cc:(eB w).isSome=false:=cc;simp only[cc,Bool.not_false,Bool.not_true,cond_false,cond_true,Option.bind_some]
    |true=>
     rw[Bool.and_eq_true] at cc;have fe:cy 40 t ([(bB.mk ((eB w).getD h').name ((eB w).getD h').kind ((eB w).getD h').aU)]:List bB)=some (t++[(eB w).getD h']):=dS (by decide) (by unfold am;simp;omega)
     have st:lL ((s,((),())),(t,()))=some (.inl ((rest,((),())),(t++[(eB w).getD h'],()))):=by
      simp only[lL,hc,Option.bind_some,Option.isSome_some,Bool.not_true,cond_false,he,hp,hn,ur,cc.1,cc.2,Bool.not_false,cond_true,fe]
     obtain⟨r,ok,ns,g1,g2,g3,g4⟩:=ih rest (t++[(eB w).getD h']) (by omega) (by simp;omega) (fun x hx=>by
      rcases List.mem_append.1 hx with hx|hx
      ·exact ha x hx
      ·rw[List.mem_singleton.1 hx];exact⟨by omega,by omega⟩)
     exact⟨r,ok,ns,(du st).trans g1,by omega,g3,g4⟩
theorem ajB:∀(ns t:List bB) (r:F),(∀n,n∈ns->dv n=true)->t.length+ns.length<=1000->(ns.flatMap cJ++10::r).length<=1000000->
  zz ((ns.flatMap cJ++10::r,((),())),(t,()))=some (((),(r,(true,()))),(t++ns,())):=by
 intro ns;induction ns with
 |nil=>
  intro t r _ _ hs;have hc:=mA 10 (10::r) (by unfold am;simp at hs ⊢;omega)
  have dR:gS 10 (10::r)=[]:=by unfold gS;rw[HL]
  have hB:gR 10 (10::r)=r:=by unfold gR;rw[HL]
  rw[dR,hB,HL] at hc;have hc:f114 ((10::r,(([10]:F),())),())=some ((([]:F),(r,(true,()))),()):=hc;have he:(([]:F)==([]:F))=true:=rfl;rw[List.append_nil];refine ca ?_
  show lL ((10::r,((),())),(t,()))=_;simp only[lL,hc,Option.bind_some,Bool.not_true,cond_false,he,cond_true]
 |cons n ns ih=>
  intro t r h aq hs;have hk:=h n List.mem_cons_self;have fG:=aeG (n:=n) (ns:=ns) (r:=10::r) hk;generalize ez:(n::ns).flatMap cJ++10::r=s at hs fG;have hc:=mA 10 s (by unfold am;omega)
  have hl:=(iW fG).1;have hl:s.length=(fD++32::cK n).length+1+(ns.flatMap cJ++10::r).length:=by rw[hl];simp;omega
  have dR:gS 10 s=fD++32::cK n:=by unfold gS;rw[fG]
  have hB:gR 10 s=ns.flatMap cJ++10::r:=by unfold gR;rw[fG]
  rw[dR,hB,fG] at hc;have hc:f114 ((s,(([10]:F),())),())=some ((fD++32::cK n,(ns.flatMap cJ++10::r,(true,()))),()):=hc;have he:((fD++32::cK n)==([]:F))=false:=rfl;have Z:dK [110,101,101,100,32] (fD++32::cK n)=some (cK n):=uu [110,101,101,100,32] (cK n);have hp:=MY (fD++32::cK n) [110,101,101,100,32];rw[Z] at hp;have hp:f168 ((fD++32::cK n,(([110,101,101,100,32]:F),())),())=some ((cK n,(true,())),()):=hp;have hn:=N1 (cK n) (by simp[fD] at hl;omega)
  rw[agU hk] at hn;have hn:f169 ((cK n,()),())=some (((),(true,())),((n.name,(n.kind,(n.aU,()))),())):=hn;have fe:cy 40 t ([(bB.mk n.name n.kind n.aU)]:List bB)=some (t++[n]):=dS (by decide) (by unfold am;simp;simp at aq;omega)
  have st:lL ((s,((),())),(t,()))=some (.inl ((ns.flatMap cJ++10::r,((),())),(t++[n],()))):=by
   simp only[lL,hc,Option.bind_some,Bool.not_true,cond_false,he,hp,hn,ur,Bool.not_false,cond_true,fe]
  have:=ih (t++[n]) r (fun x hx=>h x (List.mem_cons_of_mem _ hx)) (by simp at aq ⊢;omega) (by omega)
  rw[List.append_assoc] at this;exact(du st).trans this
theorem aac(s:F)(hs:s.length<=1000000):∃(r:F) (ok:Bool) (ns:List bB),f117 ((s,()),())=some (((),(r,(ok,()))),(ns,()))/\r.length<=s.length/\ns.length<=1000000/\td 1000000 ns:=by
 obtain⟨r,ok,ns,g1,g2⟩:=ajC s.length s [] (Nat.le_refl _) (by simpa using hs) (fun x hx=>by cases hx)
 exact⟨r,ok,ns,by simp only[f117,g1,Option.bind_some],g2⟩
theorem aab(ns:List bB)(r:F)(h:∀n,n∈ns->dv n=true)(hl:ns.length<=1000)(hs:(ns.flatMap cJ++10::r).length<=1000000):
  f117 ((ns.flatMap cJ++10::r,()),())=some (((),(r,(true,()))),(ns,())):=by
 have g1:=ajB ns [] r h (by simpa using hl) hs
 simp only[f117,g1,Option.bind_some,List.nil_append]
noncomputable abbrev atz:bg:=[(36,Ls),(55,CY),(114,vU),(116,W9),(117,W8),(118,W7)]
theorem _c:aW U (bd ah atz):=bc ⟨XK,J0,BM,z116,z117,amX,⟨⟩⟩
abbrev Oi:Shape:=⟨[ap 0,aM 2 2 0,aM 11 11 0,ar 14],[bv 5000130 .need 2 2,bv 5000131 .entry 2 3,aO 2 [ae,ae,.own 5000130,.own 5000131],bv 5000706 .need 11 2,bv 5000707 .entry 11 3,aO 11 [ae,ae,.own 5000706,.own 5000707]],76⟩
abbrev N2:List aN:=[(.norm,⟨[aM 2 2 0,aM 11 11 0,ar 73],[bv 5000130 .need 2 2,bv 5000131 .entry 2 3,aO 2 [ae,ae,.own 5000130,.own 5000131],bv 5000706 .need 11 2,bv 5000707 .entry 11 3,aO 11 [ae,ae,.own 5000706,.own 5000707]],76⟩)]
noncomputable def pC(y:Oi.J):Option (aw N2):=
 bif(!(!y.1.2.2.2.1)) then
(f55 (((y.2.2.2.2.2.2.1.1,y.2.2.2.2.2.2.1.2.1,y.2.2.2.2.1,y.2.2.2.2.2.1,()),()),())).bind fun a=>
 bif(!(!a.1.1)) then
(f36 (((y.2.2.2.2.2.2.1.1,y.2.2.2.2.2.2.1.2.1,y.2.2.2.2.1,y.2.2.2.2.2.1,()),()),())).bind fun b=>
 some (((),(),(!(b.1.1==y.1.1)),()),y.2.1,y.2.2.1,(y.2.2.2.1.1,y.2.2.2.1.2.1,(),(),()),y.2.2.2.2.1,y.2.2.2.2.2.1,(y.2.2.2.2.2.2.1.1,y.2.2.2.2.2.2.1.2.1,(),(),()),())
else
 some (((),(),true,()),y.2.1,y.2.2.1,(y.2.2.2.1.1,y.2.2.2.1.2.1,(),(),()),y.2.2.2.2.1,y.2.2.2.2.2.1,(y.2.2.2.2.2.2.1.1,y.2.2.2.2.2.2.1.2.1,(),(),()),())
else
 some (((),(),true,()),y.2.1,y.2.2.1,(y.2.2.2.1.1,y.2.2.2.1.2.1,(),(),()),y.2.2.2.2.1,y.2.2.2.2.2.1,(y.2.2.2.2.2.2.1.1,y.2.2.2.2.2.2.1.2.1,(),(),()),())
theorem aeg:aT U (an (codeOf Tryz.f67) 1 16380) (a6 Oi N2 pC):=cQ _c (by kernel_rfl) af fun y=>by kernel_rfl
abbrev i67:Shape:=⟨[ap 0],[],76⟩
abbrev we:Shape:=⟨[aM 2 2 0,ar 3],[bv 5000130 .need 2 2,bv 5000131 .entry 2 3,aO 2 [ae,ae,.own 5000130,.own 5000131]],76⟩
noncomputable def f67(a:i67.J):Option we.J:=
 bif(decide ((a.1.1.length:Int)>(4000:Int))) then
 some (((),false,()),([]:List bB),([]:List aC),(([]:F),([]:F),(),(),()),())
else
(f114 ((a.1.1,([10]:F),()),())).bind fun b=>
(f114 ((b.1.2.1,([10]:F),()),())).bind fun c=>
(f116 ((c.1.1,([32]:F),()),())).bind fun d=>
 bif((d.1.1.length:Int) !=(3:Int)) then
 some (((),false,()),([]:List bB),([]:List aC),(([]:F),([]:F),(),(),()),())
else
(aP d.1.1 (1:Int)).bind fun e=>
(aP d.1.1 (2:Int)).bind fun f=>
(f117 ((c.1.2.1,()),())).bind fun g=>
 bif(!g.1.2.2.1) then
 some (((),false,()),([]:List bB),([]:List aC),(([]:F),([]:F),(),(),()),())
else
(f118 ((g.1.2.1,()),())).bind fun h=>
(pC ((a.1.1,(),(),h.1.2.1,()),([]:List bB),([]:List aC),(([]:F),([]:F),(),(),()),g.2.1,h.2.1,(e,f,(),(),()),())).bind fun i=>
 bif i.1.2.2.1 then
 some (((),false,()),([]:List bB),([]:List aC),(([]:F),([]:F),(),(),()),())
else
 some (((),true,()),i.2.2.2.2.1,i.2.2.2.2.2.1,(i.2.2.2.2.2.2.1.1,i.2.2.2.2.2.2.1.2.1,(),(),()),())
noncomputable def ZI:aF:=aK ah Tryz.f67 i67 we [] f67
theorem aqh:aE U 67 ZI:=aL _c Tryz.func67 (by kernel_rfl) (bb aeg af) (fun y=>by kernel_rfl) fun a=>by kernel_rfl
theorem Dv{ax:Type}(f:ax->F):∀{xs:List ax} {x:ax},x∈xs->(f x).length<=(xs.flatMap f).length:=by
 intro xs;induction xs with
 |nil=>intro x h;cases h
 |cons y bh ih=>
  intro x h;rw[List.flatMap_cons,List.length_append];rcases List.mem_cons.1 h with rfl|h
  ·omega
  ·have:=ih h;omega
theorem aeT{e:aC}(h:eK e=true):e.path.length<=(d_ e).length/\e.text.length<=(d_ e).length:=by
 have hc:=D' (OA h []);rw[List.append_nil] at hc;exact⟨hc.1,hc.2.1⟩
theorem xx(p:ba):(di p).length<=(bM p).length/\p.name.length+p.aU.length+(p.bj.flatMap cJ++10::dd p.bL).length+10<=(di p).length+10/\(dd p.bL).length<=(di p).length/\(p.bj.flatMap cJ).length<=(di p).length:=by
 have h1:(bM p).length=(eF p).length+1+(di p).length:=by rw[uJ];simp;omega
 have h2:(di p).length=(dN p).length+1+(iC p).length:=by rw[uB];simp;omega
 have h3:(dN p).length=4+1+(p.name.length+1+p.aU.length):=by unfold dN;simp[k_,ik];omega
 have ay:(iC p).length=(p.bj.flatMap cJ).length+1+(dd p.bL).length:=by unfold iC;rw[List.length_append,List.length_cons];omega
 have bo:(p.bj.flatMap cJ++10::dd p.bL).length=(iC p).length:=rfl;omega
theorem HI{p:ba}(hk:cu p=true)(hl:(bM p).length<=4000):ka p:=by
 obtain⟨h1,h2,h3,ay,_,cc⟩:=ng hk;obtain⟨q1,q2,cV,jL⟩:=xx p;refine⟨by show p.name.length<=2097152;omega,by show p.aU.length<=2097152;omega,⟨by show p.bj.length<=2097152;omega,fun n hn=>?_⟩,⟨by show p.bL.length<=2097152;have:=jt cc;omega,fun e he=>?_⟩⟩
 ·have h:=Dv cJ hn;have iu:(cJ n).length=(cK n).length+6:=by unfold cJ;simp
  have hp:n.name.length+n.aU.length<=(cK n).length:=by unfold cK;simp
  exact⟨by show n.name.length<=2097152;omega,by show n.aU.length<=2097152;omega⟩
 ·have h:=Dv d_ he;have h:(d_ e).length<=(dd p.bL).length:=h;have:=aeT (ug cc e he);exact⟨by show e.path.length<=2097152;omega,by show e.text.length<=2097152;omega⟩
abbrev ri(p:ba):we.J:=(((),(true,())),(p.bj,(p.bL,((p.name,(p.aU,((),((),())))),()))))
abbrev Mb:we.J:=(((),(false,())),(([]:List bB),(([]:List aC),((([]:F),(([]:F),((),((),())))),()))))
theorem akI{p q:ba}(h:ri p=ri q):p=q:=by
 obtain⟨a,b,c,d⟩:=p;obtain⟨cP,bI,fj,_O⟩:=q;simp only[ri,Prod.mk.injEq] at h;obtain⟨_,rfl,rfl,⟨rfl,rfl,_⟩,_⟩:=h;rfl
theorem Dn{p:ba}(hk:cu p=true)(hl:(bM p).length<=4000):f67 ((bM p,()),())=some (ri p):=by
 have hb:=HI hk hl;obtain⟨h1,h2,h3,ay,_,cc⟩:=ng hk;obtain⟨q1,q2,cV,jL⟩:=xx p;have d:decide (((bM p).length:Int)>4000)=false:=decide_eq_false (by omega)
 have c1:=mA 10 (bM p) (by unfold am;omega)
 have a1:gR 10 (bM p)=di p:=by unfold gR;rw[agy]
 rw[a1] at c1;have c1:f114 ((bM p,(([10]:F),())),())=_:=c1;have c2:=mA 10 (di p) (by unfold am;omega)
 have a2:gR 10 (di p)=iC p:=by unfold gR;rw[O1 hk]
 have a3:gS 10 (di p)=dN p:=by unfold gS;rw[O1 hk]
 rw[a2,a3] at c2;have c2:f114 ((di p,(([10]:F),())),())=_:=c2;have bU:(dN p).length<=(di p).length:=by rw[uB];simp
 have c3:=N0 (dN p) (by omega)
 rw[DC hk] at c3;have ix:(((([ik,p.name,p.aU]:List F).length:Nat):Int) !=3)=false:=rfl;have dX:aP [ik,p.name,p.aU] (1:Int)=some p.name:=rfl;have fJ:aP [ik,p.name,p.aU] (2:Int)=some p.aU:=rfl;have c5:=aab p.bj (dd p.bL) h3 (by omega) (by omega)
 have c5:f117 ((iC p,()),())=_:=c5;have gE:=aam p.bL cc (by omega) hb.2.2.2
 have c6:=xF (((p.name,(p.aU,(p.bj,(p.bL,())))),()),()) hb;have c6:f55 (((p.name,(p.aU,(p.bj,(p.bL,())))),()),())=some ((cu p,()),()):=c6;have pm:=Nr p hb;rw[hk] at c6 pm;simp only[f67,d,cond_false,c1,c2,c3,ix,dX,fJ,c5,gE,Option.bind_some,Bool.not_true,Bool.not_false,pC,cond_true,c6,pm,beq_self_eq_true]
theorem aak(s:F)(hs:am s.length):f67 ((s,()),())=some Mb\/∃p:ba,f67 ((s,()),())=some (ri p)/\cu p=true/\bM p=s/\s.length<=4000:=by
 by_cases hl:s.length<=4000
 ·have d:decide ((s.length:Int)>4000)=false:=decide_eq_false (by omega)
  have au3:∀t:F,(gS 10 t).length<=t.length:=fun t=>by
   unfold gS;cases h:dj 10 t with
   |none=>exact Nat.le_refl _
   |some q=>obtain⟨x,y⟩:=q;have:=(iW h).1;show x.length<=_;rw[this];simp
  have _E:∀t:F,(gR 10 t).length<=t.length:=fun t=>by
   unfold gR;cases h:dj 10 t with
   |none=>show 0<=_;omega
   |some q=>obtain⟨x,y⟩:=q;have:=(iW h).1;show y.length<=_;rw[this];simp;omega
  have c1:=mA 10 s hs;have c1:f114 ((s,(([10]:F),())),())=_:=c1;have ec:=_E s;generalize gR 10 s=b at c1 ec;have c2:=mA 10 b (by unfold am;omega)
  have c2:f114 ((b,(([10]:F),())),())=_:=c2;have gC:=_E b;have wY:=au3 b;generalize gR 10 b=r at c2 gC;generalize gS 10 b=Z at c2 wY;have c3:=N0 Z (by omega)
  have m3:∀w,w∈bO 32 Z->w.length<=Z.length:=fun w hw=>by
   rw[<-xq 32 Z.length Z (Nat.le_refl _)] at hw;exact pw 32 _ Z w hw
  generalize bO 32 Z=ws at c3 m3;cases ix:(((ws.length:Nat):Int) !=3) with
  |true=>
   refine .inl ?_
   simp only[f67,d,cond_false,c1,c2,c3,ix,cond_true,Option.bind_some]
  |false=>
   obtain⟨O,bE,vs,rfl⟩:∃O bE vs,ws=[O,bE,vs]:=by
    have:ws.length=3:=by simp at ix;omega
    match ws,this with
    |[a,b,c],_=>exact⟨a,b,c,rfl⟩
   have dX:aP [O,bE,vs] (1:Int)=some bE:=rfl;have fJ:aP [O,bE,vs] (2:Int)=some vs:=rfl;have aB:=m3 bE (by simp)
   have aA:=m3 vs (by simp)
   obtain⟨ey,ok,ns,c5,cO,fK,ie⟩:=aac r (by omega)
   obtain⟨Kc,t,gE,w5,LU⟩:=aan ey (by omega)
   cases ok with
   |false=>
    refine .inl ?_
    simp only[f67,d,cond_false,c1,c2,c3,ix,dX,fJ,c5,cond_true,Option.bind_some,Bool.not_false]
   |true=>
    cases Kc with
    |false=>
     refine .inl ?_
     simp only[f67,d,cond_false,c1,c2,c3,ix,dX,fJ,c5,gE,cond_true,Option.bind_some,Bool.not_false,Bool.not_true,pC]
    |true=>
     have hb:ka ⟨bE,vs,ns,t⟩:=⟨by show bE.length<=2097152;omega,by show vs.length<=2097152;omega,⟨by show ns.length<=2097152;omega,fun n hn=>by have:=ie n hn;exact⟨by show n.name.length<=2097152;omega,by show n.aU.length<=2097152;omega⟩⟩,⟨by show t.length<=2097152;omega,fun e he=>by have:=LU e he;exact⟨by show e.path.length<=2097152;omega,by show e.text.length<=2097152;omega⟩⟩⟩
     have c6:=xF (((bE,(vs,(ns,(t,())))),()),()) hb;have c6:f55 (((bE,(vs,(ns,(t,())))),()),())=some ((cu ⟨bE,vs,ns,t⟩,()),()):=c6;have pm:=Nr ⟨bE,vs,ns,t⟩ hb;have pm:f36 (((bE,(vs,(ns,(t,())))),()),())=_:=pm;cases hk:cu ⟨bE,vs,ns,t⟩ with
     |false=>
      rw[hk] at c6;refine .inl ?_
      simp only[f67,d,cond_false,c1,c2,c3,ix,dX,fJ,c5,gE,cond_true,Option.bind_some,Bool.not_false,Bool.not_true,pC,c6]
     |true=>
      rw[hk] at c6 pm;cases he:bM ⟨bE,vs,ns,t⟩==s with
      |false=>
       refine .inl ?_
       simp only[f67,d,cond_false,c1,c2,c3,ix,dX,fJ,c5,gE,cond_true,Option.bind_some,Bool.not_false,Bool.not_true,pC,c6,pm,he]
      |true=>
       refine .inr ⟨⟨bE,vs,ns,t⟩,?_,hk,eq_of_beq he,hl⟩;simp only[f67,d,cond_false,c1,c2,c3,ix,dX,fJ,c5,gE,cond_true,Option.bind_some,Bool.not_false,Bool.not_true,pC,c6,pm,he]
 ·have d:decide ((s.length:Int)>4000)=true:=decide_eq_true (by omega)
  refine .inl ?_
  simp only[f67,d,cond_true]
def YQ(s:F)(p:ba):Prop:=cu p=true/\bM p=s/\s.length<=4000
def ave(B:Option ba):we.J:=match B with|some p=>ri p|none=>Mb
theorem aco(s:F)(hs:am s.length):∃B:Option ba,f67 ((s,()),())=some (ave B)/\nE B (YQ s):=by
 rcases aak s hs with h|⟨p,h,h1,h2,h3⟩
 ·refine⟨none,h,fun p=>⟨fun hp=>(by cases hp),fun⟨q1,q2,cV⟩=>?_⟩⟩
  subst q2;have:=Dn q1 cV;rw[h] at this;simp only[Option.some.injEq,Prod.mk.injEq] at this;exact absurd this.1.2.1 (by decide)
 ·refine⟨some p,h,fun q=>⟨fun hp=>?_,fun⟨q1,q2,cV⟩=>?_⟩⟩
  ·cases hp;exact⟨h1,h2,h3⟩
  ·subst q2;have:=Dn q1 cV;rw[h] at this;rw[akI (Option.some.inj this)]
noncomputable abbrev atA:bg:=[(114,vU),(115,B9)]
theorem _d:aW U (bd ah atA):=bc ⟨BM,IB,⟨⟩⟩
abbrev RG:Shape:=⟨[ap 2,ap 3,ar 4,ap 6,ar 7,ad 8,ar 9],[],35⟩
abbrev Rx:List aN:=[(.norm,⟨[ap 2,ap 3,ar 4,ap 6,ad 8,ar 28],[],35⟩)]
noncomputable def u_(y:RG.J):Option (aw Rx):=
 bif(!(!y.1.2.2.2.2.1)) then
 some ((y.1.1,y.1.2.1,y.1.2.2.1,y.1.2.2.2.1,y.1.2.2.2.2.2.1,(!y.1.2.2.2.2.2.2.1),()),())
else
 some ((y.1.1,y.1.2.1,y.1.2.2.1,y.1.2.2.2.1,y.1.2.2.2.2.2.1,true,()),())
theorem ajV:aT U (an (codeOf Tryz.f66) 1 60) (a6 RG Rx u_):=cQ _d (by kernel_rfl) af fun y=>by kernel_rfl
abbrev i66:Shape:=⟨[ap 0],[],35⟩
abbrev Ye:Shape:=⟨[ap 2,ap 3,ar 4],[],35⟩
noncomputable def f66(a:i66.J):Option Ye.J:=
(f114 ((a.1.1,([10]:F),()),())).bind fun b=>
(f115 ((b.1.1,(b.1.2.1.length:Int),()),())).bind fun c=>
(u_ ((([]:F),([]:F),false,b.1.2.1,b.1.2.2.1,c.1.1,c.1.2.1,()),())).bind fun d=>
 bif d.1.2.2.2.2.2.1 then
 some ((([]:F),([]:F),false,()),())
else
(bw d.1.2.2.2.1 (0:Int) d.1.2.2.2.2.1).bind fun e=>
(bw d.1.2.2.2.1 d.1.2.2.2.2.1 (d.1.2.2.2.1.length:Int)).bind fun f=>
 some ((e,f,true,()),())
noncomputable def ZJ:aF:=aK ah Tryz.f66 i66 Ye [] f66
theorem aqi:aE U 66 ZJ:=aL _d Tryz.func66 (by kernel_rfl) (bb ajV af) (fun y=>by kernel_rfl) fun a=>by kernel_rfl
theorem ahs(t:F)(b:UInt8):c_ (t++[b])=dU (c_ t) b:=by unfold c_;rw[List.foldl_append];rfl
theorem ahq:∀{s:F},s.all cL=true->s≠[]->hY s=false->s.length≠1->1<=c_ s:=by
 intro s Z hn hl h1;have key:∀(s:F) (n:Int),s.all cL=true->1<=n->1<=s.foldl dU n:=by
  intro s;induction s with
  |nil=>intro n _ h;exact h
  |cons b s ih=>
   intro n Z hn;simp only[List.all_cons,Bool.and_eq_true] at Z;have hb:=iz Z.1;refine ih _ Z.2 ?_
   unfold dU;omega
 match s,Z,hn,hl,h1 with
 |[],_,hn,_,_=>exact absurd rfl hn
 |[b],_,_,_,h1=>exact absurd rfl h1
 |b::c::r,Z,_,hl,_=>
  have hl:((b.toNat:Int)==48)=false:=hl;have hb:=Z;rw[List.all_cons,Bool.and_eq_true] at hb;have eN:=iz hb.1;have hne:(b.toNat:Int)≠48:=by simpa using hl
  show 1<=(c::r).foldl dU (dU 0 b);exact key _ _ hb.2 (by unfold dU;omega)
theorem adb:∀(k:Nat) (s:F),s.length=k->s.all cL=true->s≠[]->hY s=false->∃n:Nat,c_ s=(n:Int)/\Lib.decDigits n=s:=by
 intro k;induction k with
 |zero=>intro s h _ hn _;exact absurd (List.length_eq_zero_iff.1 h) hn
 |succ k ih=>
  intro s h Z hn hl;obtain⟨t,b,rfl⟩:∃t b,s=t++[b]:=⟨s.dropLast,s.getLast hn,(List.dropLast_concat_getLast hn).symm⟩;have hk:t.length=k:=by simpa using h
  rw[List.all_append,Bool.and_eq_true] at Z;have hb1:cL b=true:=by have:=Z.2;simpa using this
  have eN:=iz hb1;cases t with
  |nil=>
   refine⟨b.toNat-48,?_,?_⟩
   ·show dU 0 b=_;unfold dU;omega
   ·rw[Lib.decDigits,dif_pos (by omega)]
    show [_]=[b];congr 1
    apply UInt8.toNat_inj.1;rw[UInt8.toNat_ofNat'];omega
  |cons c r=>
   have hlt:hY (c::r)=false:=by
    cases r with
    |nil=>rfl
    |cons d r=>exact hl
   obtain⟨n,h1,h2⟩:=ih (c::r) hk Z.1 (by simp) hlt
   have hp:1<=n:=by
    cases r with
    |nil=>
     have pe:((c.toNat:Int)==48)=false:=hl;have pe:(c.toNat:Int)≠48:=by simpa using pe
     have hc:=iz (by have:=Z.1;simpa using this:cL c=true)
     have:dU 0 c=(n:Int):=h1;unfold dU at this;omega
    |cons d r=>
     have:=ahq Z.1 (by simp) hlt (by simp)
     omega
   refine⟨n*10+(b.toNat-48),?_,?_⟩
   ·rw[ahs,h1];unfold dU;omega
   ·rw[Lib.decDigits,dif_neg (by omega),show(n*10+(b.toNat-48))/10=n by omega,h2,show(n*10+(b.toNat-48))%10=b.toNat-48 by omega]
    congr 2
    apply UInt8.toNat_inj.1;rw[UInt8.toNat_ofNat'];omega
theorem OD{m:Int}{s:F}(h:e_ m s=true):∃n:Nat,c_ s=(n:Int)/\s=Lib.itoa (n:Int)/\(n:Int)<=m:=by
 have h0:=h;unfold e_ at h;simp only[Bool.and_eq_true,decide_eq_true_eq,Bool.not_eq_true'] at h;obtain⟨⟨⟨⟨h1,h2⟩,h3⟩,_⟩,bo⟩:=h;obtain⟨n,e1,e2⟩:=adb s.length s rfl h1 (by simpa using h2) h3
 exact⟨n,e1,by rw[pK,e2],by omega⟩
def k7(s:F):Option (F×F):=match dj 10 s with
 |some (bT,r)=>bif e_ (r.length:Int) bT then some (r.take (c_ bT).toNat,r.drop (c_ bT).toNat) else none
 |none=>none
theorem MT(s:F)(hs:am s.length):f66 ((s,()),())=some ((((k7 s).getD ([],[])).1,(((k7 s).getD ([],[])).2,((k7 s).isSome,()))),()):=by
 have c1:=mA 10 s hs;have c1:f114 ((s,(([10]:F),())),())=_:=c1;cases au:dj 10 s with
 |none=>
  have hz:k7 s=none:=by unfold k7;rw[au]
  have dR:gS 10 s=s:=by unfold gS;rw[au]
  have n1:=xE s ((gR 10 s).length:Int) hs;rw[au,dR] at c1;simp only[f66,c1,Option.bind_some,n1,u_,Option.isSome_none,Bool.not_false,Bool.not_true,cond_false,cond_true,hz];rfl
 |some q=>
  obtain⟨bT,r⟩:=q;have hl:=(iW au).1;have hl:s.length=bT.length+1+r.length:=by rw[hl];simp;omega
  have dR:gS 10 s=bT:=by unfold gS;rw[au]
  have hB:gR 10 s=r:=by unfold gR;rw[au]
  rw[au,dR,hB] at c1;have n1:=xE bT (r.length:Int) (by unfold am at hs ⊢;omega)
  have hz:k7 s=bif e_ (r.length:Int) bT then some (r.take (c_ bT).toNat,r.drop (c_ bT).toNat) else none:=by unfold k7;rw[au]
  cases hg:e_ (r.length:Int) bT with
  |false=>
   rw[hg] at hz n1;simp only[f66,c1,Option.bind_some,n1,u_,Option.isSome_some,Bool.not_false,Bool.not_true,cond_false,cond_true,hz];rfl
  |true=>
   rw[hg] at hz n1;obtain⟨n,h1,_,h3⟩:=OD hg;rw[h1] at hz n1;have s1:bw r 0 (n:Int)=some (r.take n):=hU (by omega)
   have s2:bw r (n:Int) ((r.length:Nat):Int)=some (r.drop n):=gu (by omega)
   simp only[f66,c1,Option.bind_some,n1,u_,Option.isSome_some,Bool.not_false,Bool.not_true,cond_false,cond_true,s1,s2,hz];rfl
theorem NF{s x y:F}(h:k7 s=some (x,y)):s=fo x++y/\y.length<s.length:=by
 unfold k7 at h;cases au:dj 10 s with
 |none=>rw[au] at h;cases h
 |some q=>
  obtain⟨bT,r⟩:=q;rw[au] at h;have hs:=(iW au).1;have h:(bif e_ (r.length:Int) bT then some (r.take (c_ bT).toNat,r.drop (c_ bT).toNat) else none)=some (x,y):=h
  cases hg:e_ (r.length:Int) bT with
  |false=>rw[hg] at h;cases h
  |true=>
   rw[hg] at h;obtain⟨n,h1,h2,h3⟩:=OD hg;simp only[cond_true,Option.some.injEq,Prod.mk.injEq,h1,Int.toNat_natCast] at h;obtain⟨rfl,rfl⟩:=h;have hlen:(r.take n).length=n:=by simp;omega
   refine⟨?_,?_⟩
   ·unfold fo;rw[hlen,<-h2,hs];simp
   ·rw[hs];simp;omega
theorem aea(x y:F)(hQ:x.length<1000000000):k7 (fo x++y)=some (x,y):=by
 unfold k7;rw[Og];obtain⟨g1,g2⟩:=E3 (n:=x.length) (m:=((x++y).length:Int)) (by simp;omega) hQ
 show(bif e_ ((x++y).length:Int) (Lib.itoa (x.length:Int)) then _ else _)=_
 rw[g1,g2];simp
noncomputable abbrev atT:bg:=[(43,C0),(66,ZJ),(67,ZI)]
theorem LA:aW U (bd ah atT):=bc ⟨J2,aqi,aqh,⟨⟩⟩
abbrev PA:Shape:=⟨[aM 2 2 0,bf 4 3000256,ap 6,ap 7,ar 8],[bv 5000128 .pack 2 0,aO 2 [.own 5000128],be 3000256 .pack 4 0],48⟩
abbrev Pm:List aN:=[(.norm,⟨[aM 2 2 0,bf 4 3000256,ap 6,ap 7,ar 26],[bv 5000128 .pack 2 0,aO 2 [.own 5000128],be 3000256 .pack 4 0],48⟩)]
noncomputable def pN(y:PA.J):Option (aw Pm):=
 bif(!(!y.1.2.2.2.2.1)) then
 some (((),(),y.1.2.2.1,y.1.2.2.2.1,((y.2.2.2.1.length:Int)==(5:Int)),()),y.2.1,((),()),y.2.2.2.1,())
else
 some (((),(),y.1.2.2.1,y.1.2.2.2.1,true,()),y.2.1,((),()),y.2.2.2.1,())
theorem agb:aT U (an (c8 (an (codeOf Tryz.f35) 1 60)) 120 3860) (a6 PA Pm pN):=cQ LA (by kernel_rfl) af fun y=>by kernel_rfl
abbrev AG:Shape:=⟨[aM 2 2 0,bf 4 3000256,ap 5],[bv 5000128 .pack 2 0,aO 2 [.own 5000128],be 3000256 .pack 4 0],48⟩
abbrev HE:List aN:=[(.ret,⟨[aM 2 2 0,ar 3],[bv 5000128 .pack 2 0,aO 2 [.own 5000128]],48⟩),(.exit 0,⟨[aM 2 2 0,bf 4 3000256],[bv 5000128 .pack 2 0,aO 2 [.own 5000128],be 3000256 .pack 4 0],48⟩)]
noncomputable def oF(y:AG.J):bJ AG HE:=
 bif(!(y.1.2.2.1==([]:F))) then
(f66 ((y.1.2.2.1,()),())).bind fun a=>
(pN (((),(),a.1.1,a.1.2.1,a.1.2.2.1,()),y.2.1,((),()),y.2.2.2.1,())).bind fun b=>
 bif b.1.2.2.2.2.1 then
 some (.inr (.inl (((),false,()),([]:List ba),((),()),())))
else
(f67 ((b.1.2.2.1,()),())).bind fun c=>
 bif(!c.1.2.1) then
 some (.inr (.inl (((),false,()),([]:List ba),((),()),())))
else
(cy 80 b.2.2.2.1 ([(ba.mk c.2.2.2.1.1 c.2.2.2.1.2.1 c.2.1 c.2.2.1)]:List ba)).bind fun d=>
 some (.inl (((),(),b.1.2.2.2.1,()),b.2.1,((),()),d,()))
else
 some (.inr (.inr (((),(),()),y.2.1,((),()),y.2.2.2.1,())))
noncomputable def u5:AG.J->Option (aw HE):=bn oF
theorem aj5:aT U (an (codeOf Tryz.f35) 1 60) (a6 AG HE u5):=bN LA (by kernel_rfl) (bb agb af) fun y=>by kernel_rfl
abbrev i35:Shape:=⟨[ap 0],[],48⟩
abbrev wh:Shape:=⟨[aM 2 2 0,ar 3],[bv 5000128 .pack 2 0,aO 2 [.own 5000128]],48⟩
noncomputable def f35(a:i35.J):Option wh.J:=
(u5 (((),(),a.1.1,()),([]:List ba),((),()),([]:List ba),())).bind fun b=>
(match b with
|.inl c=>
 some (((),c.1.2.1,()),c.2.1,((),()),())
|.inr d=>
(f43 (((d.2.2.2.1,()),()),())).bind fun e=>
 bif(!e.1.1) then
 some (((),false,()),([]:List ba),((),()),())
else
 some (((),true,()),d.2.2.2.1,((),()),()))
noncomputable def ZT:aF:=aK ah Tryz.f35 i35 wh [] f35
theorem aqp:aE U 35 ZT:=aL LA Tryz.func35 (by kernel_rfl) (bb aj5 af) (fun y=>by kernel_rfl) fun a=>by kernel_rfl
noncomputable abbrev at6:bg:=[(35,ZT)]
theorem auw:aW U (bd ah at6):=bc ⟨aqp,⟨⟩⟩
abbrev i14:Shape:=⟨[b_ 0 [ae,ae]],[],17⟩
abbrev Cr:Shape:=⟨[ar 2],[],17⟩
noncomputable def f14(a:i14.J):Option Cr.J:=
(f35 ((a.1.1.1,()),())).bind fun b=>
 bif b.1.2.1 then
 some (((a.1.1.2.1==([]:F)),()),())
else
 some ((false,()),())
noncomputable def tM:aF:=aK ah Tryz.f14 i14 Cr [] f14
theorem J4:aE U 14 tM:=aL auw Tryz.func14 (by kernel_rfl) af (fun y=>by kernel_rfl) fun a=>by kernel_rfl
abbrev oT(ps:List ba):Prop:=∀p,p∈ps->cu p=true/\(bM p).length<=4000
def o7(s:F)(ps:List ba):Prop:=jU ps=true/\dG ps=s/\oT ps
abbrev Ma(ps:List ba):wh.J:=(((),(true,())),(ps,(((),()),())))
abbrev Lc:wh.J:=(((),(false,())),(([]:List ba),(((),()),())))
def as8(B:Option (List ba)):wh.J:=match B with|some ps=>Ma ps|none=>Lc
theorem zA{ps:List ba}(h:oT ps)(hl:ps.length<=6):ir ps/\rj ps:=by
 refine⟨⟨by show ps.length<=2097152;omega,fun p hp=>HI (h p hp).1 (h p hp).2⟩,fun p hp=>?_⟩
 obtain⟨hk,au⟩:=h p hp;obtain⟨q1,q2,cV,jL⟩:=xx p;refine⟨by omega,fun n hn=>?_⟩
 have h:=Dv cJ hn;have iu:(cJ n).length=(cK n).length+6:=by unfold cJ;simp
 have hp:n.name.length+n.aU.length<=(cK n).length:=by unfold cK;simp
 omega
theorem Ea(p:ba)(ps:List ba):dG (p::ps)=fo (bM p)++dG ps:=by unfold dG;rw[List.flatMap_cons]
theorem ajE:∀(m:Nat) (s:F) (ps:List ba),s.length<=m->m<=1000000000->ps.length<=5->
  u5 (((),((),(s,()))),(([]:List ba),(((),()),(ps,()))))=some (.inl Lc)\/
  ∃b4:List ba,u5 (((),((),(s,()))),(([]:List ba),(((),()),(ps,()))))=some (.inr (((),((),())),(([]:List ba),(((),()),(ps++b4,())))))/\dG b4=s/\oT b4/\(ps++b4).length<=5:=by
 intro m;induction m with
 |zero=>
  intro s ps hs _ hl;have:s=[]:=List.length_eq_zero_iff.1 (by omega)
  subst this;exact .inr ⟨[],by rw[List.append_nil];exact ca rfl,rfl,fun p hp=>(by cases hp),by simpa using hl⟩
 |succ m ih=>
  intro s ps hs hm hl;cases s with
  |nil=>exact .inr ⟨[],by rw[List.append_nil];exact ca rfl,rfl,fun p hp=>(by cases hp),by simpa using hl⟩
  |cons b fq=>
   have hne:((b::fq)==([]:F))=false:=rfl;generalize ez:b::fq=s at hs hne;have z:=MT s (by unfold am;omega)
   cases hz:k7 s with
   |none=>
    rw[hz] at z;refine .inl (ca ?_);simp only[oF,hne,Bool.not_false,cond_true,z,Option.bind_some,Option.isSome_none,pN,Bool.not_true,cond_false]
   |some q=>
    obtain⟨x,y⟩:=q;obtain⟨aB,aA⟩:=NF hz;rw[hz] at z;have z:f66 ((s,()),())=some ((x,(y,(true,()))),()):=z;by_cases bo:ps.length=5
    ·refine .inl (ca ?_);have d:(((ps.length:Nat):Int)==5)=true:=by rw[beq_iff_eq];omega
     simp only[oF,hne,Bool.not_false,cond_true,z,Option.bind_some,pN,Bool.not_true,cond_false,d]
    ·have d:(((ps.length:Nat):Int)==5)=false:=by rw[beq_eq_false_iff_ne];omega
     have hx:x.length<=s.length:=by rw[aB];unfold fo;simp;omega
     obtain⟨B,g1,g2⟩:=aco x (by unfold am;omega)
     cases B with
     |none=>
      have g1:f67 ((x,()),())=some Mb:=g1;refine .inl (ca ?_);simp only[oF,hne,Bool.not_false,cond_true,z,Option.bind_some,pN,Bool.not_true,cond_false,d,g1]
     |some p=>
      have g1:f67 ((x,()),())=some (ri p):=g1;obtain⟨iw,ic,p3⟩:=(g2 p).1 rfl;have fe:cy 80 ps ([(ba.mk p.name p.aU p.bj p.bL)]:List ba)=some (ps++[p]):=dS (by decide) (by unfold am;simp;omega)
      have st:oF (((),((),(s,()))),(([]:List ba),(((),()),(ps,()))))=some (.inl (((),((),(y,()))),(([]:List ba),(((),()),(ps++[p],()))))):=by
       simp only[oF,hne,Bool.not_false,cond_true,z,Option.bind_some,pN,Bool.not_true,cond_false,d,g1,fe]
      rcases ih y (ps++[p]) (by omega) (by omega) (by simp;omega) with e|⟨b4,e1,e2,bz,da⟩
      ·exact .inl ((du st).trans e)
      ·rw[List.append_assoc] at e1 da;refine .inr ⟨p::b4,(du st).trans e1,by rw[Ea,e2,ic,<-aB],fun r hr=>?_,da⟩
       rcases List.mem_cons.1 hr with rfl|hr
       ·exact⟨iw,by rw[ic];exact p3⟩
       ·exact bz r hr
theorem ajD:∀(b4 ps:List ba),oT b4->ps.length+b4.length<=5->
  u5 (((),((),(dG b4,()))),(([]:List ba),(((),()),(ps,()))))=some (.inr (((),((),())),(([]:List ba),(((),()),(ps++b4,()))))):=by
 intro b4;induction b4 with
 |nil=>intro ps _ _;rw[List.append_nil];exact ca rfl
 |cons p b4 ih=>
  intro ps h hl;obtain⟨h1,h2⟩:=h p List.mem_cons_self;have hz:=aea (bM p) (dG b4) (by omega)
  rw[<-Ea] at hz;have hlen:(dG (p::b4)).length<=30000:=by
   have:=uA (f:=fun p=>fo (bM p)) (xs:=p::b4) (n:=5000) fun q au=>by
    have:=(h q au).2;have:=nl (bM q).length (by omega)
    show(fo (bM q)).length<=5000;unfold fo;simp;omega
   have e:(dG (p::b4)).length=((p::b4).flatMap fun p=>fo (bM p)).length:=rfl
   simp only[List.length_cons] at hl this;have cc:(b4.length+1)*5000<=6*5000:=Nat.mul_le_mul_right _ (by omega)
   omega
  have z:=MT (dG (p::b4)) (by unfold am;omega)
  rw[hz] at z;have z:f66 ((dG (p::b4),()),())=some ((bM p,(dG b4,(true,()))),()):=z;have g1:=Dn h1 h2;have hne:(dG (p::b4)==([]:F))=false:=by
   have:=(NF hz).2;cases hx:dG (p::b4) with
   |nil=>rw[hx] at this;simp at this
   |cons b r=>rfl
  have d:(((ps.length:Nat):Int)==5)=false:=by rw[beq_eq_false_iff_ne];simp at hl;omega
  have fe:cy 80 ps ([(ba.mk p.name p.aU p.bj p.bL)]:List ba)=some (ps++[p]):=dS (by decide) (by unfold am;simp;simp at hl;omega)
  have st:oF (((),((),(dG (p::b4),()))),(([]:List ba),(((),()),(ps,()))))=some (.inl (((),((),(dG b4,()))),(([]:List ba),(((),()),(ps++[p],()))))):=by
   simp only[oF,hne,Bool.not_false,cond_true,z,Option.bind_some,pN,Bool.not_true,cond_false,d,g1,fe]
  have:=ih (ps++[p]) (fun r hr=>h r (List.mem_cons_of_mem _ hr)) (by simp at hl ⊢;omega)
  rw[List.append_assoc] at this;exact(du st).trans this
theorem acn(s:F)(hs:s.length<=1000000000):∃B:Option (List ba),f35 ((s,()),())=some (as8 B)/\nE B (o7 s):=by
 have put:∀ps:List ba,o7 s ps->f35 ((s,()),())=some (Ma ps):=by
  intro ps ⟨h1,h2,h3⟩;subst h2;have hl:ps.length<=5:=(xj h1).2;obtain⟨hb,hv⟩:=zA h3 (by omega)
  have g:=ajD ps [] h3 (by simpa using hl)
  have e:=NX (((ps,()),()),()) hb hv;have e:f43 (((ps,()),()),())=some ((jU ps,()),()):=e;rw[h1] at e;simp only[f35,g,List.nil_append,Option.bind_some,e,Bool.not_true,cond_false]
 have any:f35 ((s,()),())=some Lc\/∃ps,f35 ((s,()),())=some (Ma ps)/\o7 s ps:=by
  rcases ajE s.length s [] (Nat.le_refl _) hs (by decide) with g|⟨b4,g,h1,h2,h3⟩
  ·refine .inl ?_
   simp only[f35,g,Option.bind_some]
  ·rw[List.nil_append] at g h3;obtain⟨hb,hv⟩:=zA h2 (by omega)
   have e:=NX (((b4,()),()),()) hb hv;have e:f43 (((b4,()),()),())=some ((jU b4,()),()):=e;cases hr:jU b4 with
   |false=>
    rw[hr] at e;refine .inl ?_
    simp only[f35,g,Option.bind_some,e,Bool.not_false,cond_true]
   |true=>
    rw[hr] at e;refine .inr ⟨b4,?_,hr,h1,h2⟩;simp only[f35,g,Option.bind_some,e,Bool.not_true,cond_false]
 rcases any with h|⟨ps,h,hr⟩
 ·refine⟨none,h,fun p=>⟨fun hp=>(by cases hp),fun hp=>?_⟩⟩
  have:=put p hp;rw[h] at this;simp only[Option.some.injEq,Prod.mk.injEq] at this;exact absurd this.1.2.1 (by decide)
 ·refine⟨some ps,h,fun q=>⟨fun hp=>by cases hp;exact hr,fun hp=>?_⟩⟩
  have:=put q hp;rw[h] at this;simp only[Option.some.injEq,Prod.mk.injEq] at this;rw[this.2.1]
theorem adH(s t:F)(hs:s.length<=1000000000):∃B:Option (List ba),f14 (((s,(t,())),()),())=some ((B.isSome&&t==[],()),())/\nE B (o7 s):=by
 obtain⟨B,h1,h2⟩:=acn s hs;refine⟨B,?_,h2⟩;simp only[f14,h1,Option.bind_some];cases B<;>rfl
theorem Oe{c:UInt8}{k:Nat}{s:F}(h:b9 c s):splitN c k s=[s]:=by
 cases k with
 |zero=>rfl
 |succ k=>unfold splitN;rw[aiZ h]
theorem Nz{c:UInt8}{k:Nat}{a b:F}(h:b9 c a):splitN c (k+1) (a++c::b)=a::splitN c k b:=by
 show(match dj c (a++c::b) with|some (x,y)=>x::splitN c k y|none=>[a++c::b])=_
 rw[rT h]
theorem ahA(pre mid rest:F):bw (pre++mid++rest) (pre.length:Int) ((pre.length+mid.length:Nat):Int)=some mid:=by
 rw[pJ (by omega) (by simp),show pre.length+mid.length=(pre++mid).length by simp,List.take_left' rfl,List.drop_left' rfl]
theorem aiH(c:UInt8)(s:F)(hs:s.length<=1000000000):∀(rest mid pre:F) (parts:List F) (k j0:Nat),s=pre++mid++rest->b9 c mid->parts.length+k=j0->parts.length<=pre.length->
  ∃(HJ:List F) (IJ t:F),uN ((s,((c.toNat:Int),((j0:Int),((),((pre.length:Int),(((pre.length+mid.length:Nat):Int),())))))),(parts,()))=some ((s,((),((IJ.length:Int),()))),(HJ,()))/\s=IJ++t/\HJ++[t]=parts++splitN c k (mid++rest)/\HJ.length<=IJ.length:=by
 intro rest;induction rest with
 |nil=>
  intro mid pre parts k j0 h1 h2 h3 ay;rw[List.append_nil] at h1;refine⟨parts,pre,mid,ca ?_,h1,by rw[List.append_nil,Oe h2],ay⟩
  have d:decide (((pre.length+mid.length:Nat):Int)<(s.length:Int))=false:=decide_eq_false (by rw[h1];simp)
  simp only[ox,d,cond_false]
 |cons b r ih=>
  intro mid pre parts k j0 h1 h2 h3 ay;have hl:s.length=pre.length+mid.length+1+r.length:=by rw[h1];simp;omega
  have d:decide (((pre.length+mid.length:Nat):Int)<(s.length:Int))=true:=decide_eq_true (by omega)
  cases k with
  |zero=>
   refine⟨parts,pre,mid++b::r,ca ?_,by rw[h1,List.append_assoc],rfl,ay⟩
   have d2:decide (((parts.length:Nat):Int)<(j0:Int))=false:=decide_eq_false (by omega)
   simp only[ox,d,d2,cond_true,cond_false]
  |succ k=>
   have d2:decide (((parts.length:Nat):Int)<(j0:Int))=true:=decide_eq_true (by omega)
   have hx:aP s ((pre.length+mid.length:Nat):Int)=some b:=by
    rw[bQ,h1,List.getElem?_append_right (by simp)]
    simp
   have hw:IntKind.i64.wrap (((pre.length+mid.length:Nat):Int)+1)=((pre.length+mid.length+1:Nat):Int):=bK (by unfold am;omega)
   by_cases hb:b=c
   ·subst hb;have au:(((b.toNat:Nat):Int)==(b.toNat:Int))=true:=by simp
    have hm:bw s (pre.length:Int) ((pre.length+mid.length:Nat):Int)=some mid:=by rw[h1];exact ahA pre mid _
    have ha:cy 16 parts ([mid]:List F)=some (parts++[mid]):=dS (by decide) (by unfold am;simp;omega)
    have hp:(pre++mid++[b]).length=pre.length+mid.length+1:=by simp;omega
    obtain⟨kb,fr,t,g1,g2,g3,g4⟩:=ih [] (pre++mid++[b]) (parts++[mid]) k j0 (by rw[h1];simp) (b9.nil b) (by simp;omega) (by rw[hp];simp;omega)
    rw[hp] at g1;refine⟨kb,fr,t,(du ?_).trans g1,g2,?_,g4⟩
    ·simp only[ox,d,d2,cond_true,hx,Option.bind_some,au,hm,ha,hw];rfl
    ·rw[g3,Nz h2];simp
   ·have au:(((b.toNat:Nat):Int)==(c.toNat:Int))=false:=by
     rw[beq_eq_false_iff_ne];intro h;exact hb (UInt8.toNat_inj.1 (by omega))
    obtain⟨kb,fr,t,g1,g2,g3,g4⟩:=ih (mid++[b]) pre parts (k+1) j0 (by rw[h1];simp) (h2.cU fun x hx=>by rw[List.mem_singleton.1 hx];exact hb) h3 ay
    have hp:pre.length+(mid++[b]).length=pre.length+mid.length+1:=by simp;omega
    rw[hp] at g1;refine⟨kb,fr,t,(du ?_).trans g1,g2,?_,g4⟩
    ·simp only[ox,d,d2,cond_true,hx,Option.bind_some,au,cond_false,hw]
    ·rw[g3];simp
theorem lG(c:UInt8)(s:F)(hs:s.length<=1000000000)(j0:Nat):f73 ((s,((c.toNat:Int),((j0:Int),()))),())=some (((),()),(splitN c j0 s,())):=by
 obtain⟨kb,fr,t,g1,g2,g3,g4⟩:=aiH c s hs s [] [] [] j0 j0 rfl (b9.nil c) (by simp) (Nat.le_refl _)
 have g1:uN ((s,((c.toNat:Int),((j0:Int),((),((0:Int),((0:Int),())))))),(([]:List F),()))=_:=g1;have au:fr.length<=s.length:=by rw[g2];simp
 have e1:bw s (fr.length:Int) ((s.length:Nat):Int)=some t:=by rw[gu au,g2];simp
 have e2:cy 16 kb ([t]:List F)=some (kb++[t]):=dS (by decide) (by unfold am;simp;omega)
 simp only[f73,g1,Option.bind_some,e1,e2,g3];rfl
noncomputable abbrev aoQ:bg:=[(192,Jy),(218,Jt),(225,Js)]
theorem Cd:aW U (bd ah aoQ):=bc ⟨Tz,z218,Tw,⟨⟩⟩
abbrev y8:Shape:=⟨[ap 0,aM 2 2 0,ar 3,ad 4],[aO 2 [ae,br,ae]],75⟩
abbrev F0:List aN:=[(.exit 0,⟨[ap 0,aM 2 2 0,ar 3,ad 4],[aO 2 [ae,br,ae]],75⟩)]
noncomputable def pY(y:y8.J):bJ y8 F0:=
 bif(decide (y.1.2.2.2.1<(y.1.1.length:Int))) then
(aP y.1.1 y.1.2.2.2.1).bind fun a=>
 bif((a.toNat:Int) !=(61:Int)) then
(aP y.1.1 y.1.2.2.2.1).bind fun b=>
 bif((b.toNat:Int) !=(62:Int)) then
(aP y.1.1 y.1.2.2.2.1).bind fun c=>
 bif((c.toNat:Int) !=(60:Int)) then
 some (.inl ((y.1.1,(),y.1.2.2.1,(IntKind.i64.wrap (y.1.2.2.2.1+(1:Int))),()),(y.2.1.1,y.2.1.2.1,y.2.1.2.2.1,()),()))
else
 some (.inr ((y.1.1,(),y.1.2.2.1,y.1.2.2.2.1,()),(y.2.1.1,y.2.1.2.1,y.2.1.2.2.1,()),()))
else
 some (.inr ((y.1.1,(),y.1.2.2.1,y.1.2.2.2.1,()),(y.2.1.1,y.2.1.2.1,y.2.1.2.2.1,()),()))
else
 some (.inr ((y.1.1,(),y.1.2.2.1,y.1.2.2.2.1,()),(y.2.1.1,y.2.1.2.1,y.2.1.2.2.1,()),()))
else
 some (.inr ((y.1.1,(),y.1.2.2.1,y.1.2.2.2.1,()),(y.2.1.1,y.2.1.2.1,y.2.1.2.2.1,()),()))
noncomputable def zy:y8.J->Option (aw F0):=bn pY
theorem ah8:aT U (an (codeOf Tryz.f179) 1 28) (a6 y8 F0 zy):=bN Cd (by kernel_rfl) af fun y=>by kernel_rfl
abbrev ND:Shape:=⟨[ap 0,aM 2 2 0,ar 3,aM 5 5 0,ap 6,ad 7,ap 8],[aO 2 [ae,br,ae],aO 5 [ae,br,ae]],75⟩
abbrev Nw:List aN:=[(.norm,⟨[ap 0,aM 2 2 0,ar 3,aM 5 5 0,ap 6,ad 7,ap 8,ar 58],[aO 2 [ae,br,ae],aO 5 [ae,br,ae]],75⟩)]
noncomputable def DO(y:ND.J):Option (aw Nw):=
 bif(decide ((y.1.2.2.2.2.1.length:Int)>=(y.1.2.2.2.2.2.2.1.length:Int))) then
(bw y.1.2.2.2.2.1 (0:Int) (y.1.2.2.2.2.2.2.1.length:Int)).bind fun a=>
 some ((y.1.1,(),y.1.2.2.1,(),y.1.2.2.2.2.1,y.1.2.2.2.2.2.1,y.1.2.2.2.2.2.2.1,(a==y.1.2.2.2.2.2.2.1),()),(y.2.1.1,y.2.1.2.1,y.2.1.2.2.1,()),(y.2.2.1.1,y.2.2.1.2.1,y.2.2.1.2.2.1,()),())
else
 some ((y.1.1,(),y.1.2.2.1,(),y.1.2.2.2.2.1,y.1.2.2.2.2.2.1,y.1.2.2.2.2.2.2.1,false,()),(y.2.1.1,y.2.1.2.1,y.2.1.2.2.1,()),(y.2.2.1.1,y.2.2.1.2.1,y.2.2.1.2.2.1,()),())
theorem acI:aT U (an (c8 (an (codeOf Tryz.f179) 1 506)) 1012 32402) (a6 ND Nw DO):=cQ Cd (by kernel_rfl) af fun y=>by kernel_rfl
abbrev ym:Shape:=⟨[ap 0,aM 2 2 0,ar 3,aM 5 5 0,ap 6,ad 7],[aO 2 [ae,br,ae],aO 5 [ae,br,ae]],75⟩
abbrev EQ:List aN:=[(.exit 2,⟨[ap 0,aM 2 2 0,ar 3,aM 5 5 0],[aO 2 [ae,br,ae],aO 5 [ae,br,ae]],75⟩)]
noncomputable def uz(y:ym.J):bJ ym EQ:=
 bif(decide (y.1.2.2.2.2.2.1<=(3:Int))) then
(f225 ((y.1.2.2.2.2.2.1,()),())).bind fun a=>
(DO ((y.1.1,(),y.1.2.2.1,(),y.1.2.2.2.2.1,y.1.2.2.2.2.2.1,a.1.1,()),(y.2.1.1,y.2.1.2.1,y.2.1.2.2.1,()),(y.2.2.1.1,y.2.2.1.2.1,y.2.2.1.2.2.1,()),())).bind fun b=>
 bif b.1.2.2.2.2.2.2.2.1 then
(bw b.1.2.2.2.2.1 (b.1.2.2.2.2.2.2.1.length:Int) (b.1.2.2.2.2.1.length:Int)).bind fun c=>
 some (.inl ((b.1.1,(),b.1.2.2.1,(),b.1.2.2.2.2.1,(IntKind.i64.wrap (b.1.2.2.2.2.2.1+(1:Int))),()),(b.2.1.1,b.2.1.2.1,b.2.1.2.2.1,()),(b.2.2.1.1,b.1.2.2.2.2.2.1,c,()),()))
else
 some (.inl ((b.1.1,(),b.1.2.2.1,(),b.1.2.2.2.2.1,(IntKind.i64.wrap (b.1.2.2.2.2.2.1+(1:Int))),()),(b.2.1.1,b.2.1.2.1,b.2.1.2.2.1,()),(b.2.2.1.1,b.2.2.1.2.1,b.2.2.1.2.2.1,()),()))
else
 some (.inr ((y.1.1,(),y.1.2.2.1,(),()),(y.2.1.1,y.2.1.2.1,y.2.1.2.2.1,()),(y.2.2.1.1,y.2.2.1.2.1,y.2.2.1.2.2.1,()),()))
noncomputable def Fi:ym.J->Option (aw EQ):=bn uz
theorem ago:aT U (an (codeOf Tryz.f179) 1 506) (a6 ym EQ Fi):=bN Cd (by kernel_rfl) (bb acI af) fun y=>by kernel_rfl
abbrev i179:Shape:=⟨[ap 0],[],75⟩
abbrev UD:Shape:=⟨[aM 2 2 0,ar 3],[aO 2 [ae,br,ae]],75⟩
noncomputable def f179(a:i179.J):Option UD.J:=
(zy ((a.1.1,(),false,(0:Int),()),(([]:F),(0:Int),([]:F),()),())).bind fun b=>
(bw b.1.1 (0:Int) b.1.2.2.2.1).bind fun c=>
(bw b.1.1 b.1.2.2.2.1 (b.1.1.length:Int)).bind fun d=>
(Fi ((b.1.1,(),b.1.2.2.1,(),d,(1:Int),()),(b.2.1.1,b.2.1.2.1,b.2.1.2.2.1,()),(c,(0:Int),([]:F),()),())).bind fun e=>
(f192 (((e.2.2.1.1,e.2.2.1.2.1,e.2.2.1.2.2.1,()),()),())).bind fun f=>
 bif f.1.1 then
(f218 (((e.2.2.1.1,e.2.2.1.2.1,e.2.2.1.2.2.1,()),()),())).bind fun g=>
 some (((),(g.1.1==e.1.1),()),(e.2.2.1.1,e.2.2.1.2.1,e.2.2.1.2.2.1,()),())
else
 some (((),false,()),(e.2.2.1.1,e.2.2.1.2.1,e.2.2.1.2.2.1,()),())
noncomputable def WA:aF:=aK ah Tryz.f179 i179 UD [] f179
theorem amG:aE U 179 WA:=aL Cd Tryz.func179 (by kernel_rfl) (bb ah8 (bb ago af)) (fun y=>by kernel_rfl) fun a=>by kernel_rfl
theorem aiK(s:F)(hs:s.length<=1000000000):∀(t a:F),s=a++t->(∀y,y∈a->eJ.contains y=false)->
  ∃cP bk:F,zy ((s,((),(false,((a.length:Int),())))),((([]:F),((0:Int),(([]:F),()))),()))=some ((s,((),(false,((cP.length:Int),())))),((([]:F),((0:Int),(([]:F),()))),()))/\s=cP++bk/\(∀y,y∈cP->eJ.contains y=false)/\(bk=[]\/∃x r,bk=x::r/\eJ.contains x=true):=by
 intro t;induction t with
 |nil=>
  intro a h1 h2;refine⟨a,[],ca ?_,h1,h2,.inl rfl⟩;have d:decide (((a.length:Nat):Int)<(s.length:Int))=false:=decide_eq_false (by rw[h1];simp)
  simp only[pY,d,cond_false]
 |cons b r ih=>
  intro a h1 h2;have hl:s.length=a.length+1+r.length:=by rw[h1];simp;omega
  have d:decide (((a.length:Nat):Int)<(s.length:Int))=true:=decide_eq_true (by omega)
  have hx:aP s (a.length:Int)=some b:=by
   rw[bQ,h1,List.getElem?_append_right (by omega)];simp
  have hw:IntKind.i64.wrap (((a.length:Nat):Int)+1)=((a.length+1:Nat):Int):=bK (by unfold am;omega)
  cases hb:eJ.contains b with
  |true=>
   refine⟨a,b::r,ca ?_,h1,h2,.inr ⟨b,r,rfl,hb⟩⟩;have hc:b=61\/b=60\/b=62:=by simpa[eJ] using hb
   rcases hc with rfl|rfl|rfl
   ·have t1:((((61:UInt8).toNat:Nat):Int) !=61)=false:=rfl;simp only[pY,d,cond_true,hx,Option.bind_some,t1,cond_false]
   ·have t1:((((60:UInt8).toNat:Nat):Int) !=61)=true:=rfl;have t2:((((60:UInt8).toNat:Nat):Int) !=62)=true:=rfl;have t3:((((60:UInt8).toNat:Nat):Int) !=60)=false:=rfl;simp only[pY,d,cond_true,hx,Option.bind_some,t1,t2,t3,cond_false]
   ·have t1:((((62:UInt8).toNat:Nat):Int) !=61)=true:=rfl;have t2:((((62:UInt8).toNat:Nat):Int) !=62)=false:=rfl;simp only[pY,d,cond_true,hx,Option.bind_some,t1,t2,cond_false]
  |false=>
   have hc:¬(b=61\/b=60\/b=62):=by
    intro h;rcases h with rfl|rfl|rfl<;>revert hb<;>decide
   have ne:∀k:UInt8,b≠k->(((b.toNat:Nat):Int) !=(k.toNat:Int))=true:=fun k hk=>by
    rw[bne_iff_ne];intro h;exact hk (UInt8.toNat_inj.1 (by omega))
   have t1:(((b.toNat:Nat):Int) !=61)=true:=ne 61 fun h=>hc (.inl h)
   have t2:(((b.toNat:Nat):Int) !=62)=true:=ne 62 fun h=>hc (.inr (.inr h))
   have t3:(((b.toNat:Nat):Int) !=60)=true:=ne 60 fun h=>hc (.inr (.inl h))
   have st:pY ((s,((),(false,((a.length:Int),())))),((([]:F),((0:Int),(([]:F),()))),()))=some (.inl ((s,((),(false,(((a.length+1:Nat):Int),())))),((([]:F),((0:Int),(([]:F),()))),()))):=by
    simp only[pY,d,cond_true,hx,Option.bind_some,t1,t2,t3,hw]
   obtain⟨cP,bk,g1,g2⟩:=ih (a++[b]) (by rw[h1];simp) (fun y hy=>by
    rcases List.mem_append.1 hy with hy|hy
    ·exact h2 y hy
    ·rw[List.mem_singleton.1 hy];exact hb)
   rw[show(a++[b]).length=a.length+1 by simp] at g1
   exact⟨cP,bk,(du st).trans g1,g2⟩
def iN(t:F)(k:Int)(q:Int×F):Int×F:=match dK (dB k) t with|some r=>(k,r)|none=>q
theorem Gs(s t bE v:F)(k q:Int)(h:k<=3)(h0:0<=k):
  uz ((s,((),(false,((),(t,(k,())))))),((([]:F),((0:Int),(([]:F),()))),((bE,(q,(v,()))),())))=some (.inl ((s,((),(false,((),(t,(k+1,())))))),((([]:F),((0:Int),(([]:F),()))),((bE,((iN t k (q,v)).1,((iN t k (q,v)).2,()))),())))):=by
 have d:decide (k<=3)=true:=decide_eq_true h;have e:=O7 k;have hw:IntKind.i64.wrap (k+1)=k+1:=ee (by omega) (by omega)
 unfold iN dK;have Z:decide (((t.length:Nat):Int)>=(((dB k).length:Nat):Int))=decide ((dB k).length<=t.length):=by congr 1;apply propext;omega
 simp only[uz,d,cond_true,e,Option.bind_some,DO,Z];cases hc:decide ((dB k).length<=t.length) with
 |false=>simp only[cond_false,Option.bind_some,Bool.false_and,hw]
 |true=>
  have hle:=of_decide_eq_true hc;have e1:bw t 0 (((dB k).length:Nat):Int)=some (t.take (dB k).length):=hU hle;have e2:bw t (((dB k).length:Nat):Int) ((t.length:Nat):Int)=some (t.drop (dB k).length):=gu hle;simp only[cond_true,e1,Option.bind_some,Bool.true_and];cases t.take (dB k).length==dB k with
  |false=>simp only[cond_false,hw]
  |true=>simp only[cond_true,e2,Option.bind_some,hw]
theorem ad4:∀{a cP t bk:F},a++t=cP++bk->(∀y,y∈a->eJ.contains y=false)->(∀y,y∈cP->eJ.contains y=false)->(t=[]\/∃x r,t=x::r/\eJ.contains x=true)->(bk=[]\/∃x r,bk=x::r/\eJ.contains x=true)->a=cP/\t=bk:=by
 intro a;induction a with
 |nil=>
  intro cP t bk h h1 h2 h3 ay;cases cP with
  |nil=>exact⟨rfl,h⟩
  |cons b r=>
   have hb:=h2 b List.mem_cons_self;rcases h3 with rfl|⟨x,ey,rfl,hx⟩
   ·cases h
   ·have:x=b:=by simp at h;exact h.1
    rw[this,hb] at hx;cases hx
 |cons b a ih=>
  intro cP t bk h h1 h2 h3 ay;cases cP with
  |nil=>
   have hb:=h1 b List.mem_cons_self;rcases ay with rfl|⟨x,ey,rfl,hx⟩
   ·cases h
   ·have:b=x:=by simp at h;exact h.1
    rw[<-this,hb] at hx;cases hx
  |cons bI cP=>
   simp only[List.cons_append,List.cons.injEq] at h;obtain⟨rfl,h⟩:=h;obtain⟨e1,e2⟩:=ih h (fun y hy=>h1 y (List.mem_cons_of_mem _ hy)) (fun y hy=>h2 y (List.mem_cons_of_mem _ hy)) h3 ay
   exact⟨by rw[e1],e2⟩
def fc(t:F):Int×F:=iN t 3 (iN t 2 (iN t 1 (0,[])))
theorem Gt(t:F)(k:Int)(q:Int×F)(h:q.2.length<=t.length):(iN t k q).2.length<=t.length:=by
 unfold iN;split
 ·rename_i r hr;exact OV hr
 ·exact h
theorem Q4(t:F):(fc t).2.length<=t.length:=Gt t 3 _ (Gt t 2 _ (Gt t 1 _ (Nat.zero_le _)))
theorem P9(s:F)(hs:s.length<=2000000):∃(a t:F) (ok:Bool),f179 ((s,()),())=some (((),(ok,())),((a,((fc t).1,((fc t).2,()))),()))/\s=a++t/\(∀y,y∈a->eJ.contains y=false)/\(t=[]\/∃x r,t=x::r/\eJ.contains x=true):=by
 obtain⟨a,t,g1,h1,h2,h3⟩:=aiK s (by omega) s [] rfl (fun y hy=>by cases hy)
 have g1:zy ((s,((),(false,((0:Int),())))),((([]:F),((0:Int),(([]:F),()))),()))=_:=g1;have hl:s.length=a.length+t.length:=by rw[h1];simp
 have e1:bw s 0 ((a.length:Nat):Int)=some a:=by rw[hU (by omega),h1];simp
 have e2:bw s ((a.length:Nat):Int) ((s.length:Nat):Int)=some t:=by rw[gu (by omega),h1];simp
 have s1:=Gs s t a [] 1 0 (by decide) (by decide)
 have s2:=Gs s t a (iN t 1 (0,[])).2 2 (iN t 1 (0,[])).1 (by decide) (by decide)
 have gZ:=Gs s t a (iN t 2 (iN t 1 (0,[]))).2 3 (iN t 2 (iN t 1 (0,[]))).1 (by decide) (by decide)
 have _A:uz ((s,((),(false,((),(t,((3:Int)+1,())))))),((([]:F),((0:Int),(([]:F),()))),((a,((fc t).1,((fc t).2,()))),())))=some (.inr ((s,((),(false,((),())))),((([]:F),((0:Int),(([]:F),()))),((a,((fc t).1,((fc t).2,()))),())))):=by
  have d:decide ((3:Int)+1<=3)=false:=by decide
  simp only[uz,d,cond_false]
 have g2:Fi ((s,((),(false,((),(t,((1:Int),())))))),((([]:F),((0:Int),(([]:F),()))),((a,((0:Int),(([]:F),()))),())))=some ((s,((),(false,((),())))),((([]:F),((0:Int),(([]:F),()))),((a,((fc t).1,((fc t).2,()))),()))):=
  (du s1).trans ((du s2).trans ((du gZ).trans (ca _A)))
 have hv:=Q4 t;have bz:=Pc (((a,((fc t).1,((fc t).2,()))),()),()) (by show a.length<=2097152;omega) (by show(fc t).2.length<=2097152;omega)
 have da:=P8 ⟨a,(fc t).1,(fc t).2⟩ ⟨by show a.length<=2097152;omega,by show(fc t).2.length<=2097152;omega⟩
 refine⟨a,t,dv ⟨a,(fc t).1,(fc t).2⟩&&cK ⟨a,(fc t).1,(fc t).2⟩==s,?_,h1,h2,h3⟩;simp only[f179,g1,Option.bind_some,e1,e2,g2,bz];cases dv ⟨a,(fc t).1,(fc t).2⟩ with
 |false=>rfl
 |true=>
  simp only[cond_true,da,Option.bind_some];rfl
theorem abo(s:F)(hs:s.length<=2000000):∃(n:bB) (ok:Bool),f179 ((s,()),())=some (((),(ok,())),((n.name,(n.kind,(n.aU,()))),()))/\n.name.length<=s.length/\n.aU.length<=s.length:=by
 obtain⟨a,t,ok,h,h1,_⟩:=P9 s hs;have hv:=Q4 t;have hl:s.length=a.length+t.length:=by rw[h1];simp
 exact⟨⟨a,(fc t).1,(fc t).2⟩,ok,h,by show a.length<=_;omega,by show(fc t).2.length<=_;omega⟩
theorem abn{n:bB}(h:dv n=true)(hs:(cK n).length<=2000000):∃ok:Bool,f179 ((cK n,()),())=some (((),(ok,())),((n.name,(n.kind,(n.aU,()))),())):=by
 obtain⟨a,t,ok,e,h1,h2,h3⟩:=P9 (cK n) hs;obtain⟨aB,aA⟩:=xk h;have hno:=Pv (Dt aB);obtain⟨bE,k,v⟩:=n;have key:∀bk:F,cK ⟨bE,k,v⟩=bE++bk->(bk=[]\/∃x r,bk=x::r/\eJ.contains x=true)->fc bk=(k,v)->∃ok:Bool,f179 ((cK ⟨bE,k,v⟩,()),())=some (((),(ok,())),((bE,(k,(v,()))),())):=by
  intro bk q1 q2 cV;obtain⟨e1,e2⟩:=ad4 (h1.symm.trans q1) h2 hno h3 q2;subst e1 e2;rw[cV] at e;exact⟨ok,e⟩
 rcases aA with⟨hk,hv⟩|⟨hk,hv⟩
 ·have hk:k=0:=hk;have hv:v=[]:=hv;subst hk hv;exact key [] (by unfold cK dB;simp) (.inl rfl) (by decide)
 ·rcases hk with hk|hk|hk
  ·have hk:k=1:=hk;subst hk;refine key (61::v) (by unfold cK dB;simp) (.inr ⟨61,v,rfl,by decide⟩) ?_
   have d1:dK (dB 1) (61::v)=some v:=uu [61] v;have d2:dK (dB 2) (61::v)=none:=by unfold dK;cases v<;>simp[dB]
   have d3:dK (dB 3) (61::v)=none:=by unfold dK;simp[dB]
   simp only[fc,iN,d1,d2,d3]
  ·have hk:k=2:=hk;subst hk;refine key (62::61::v) (by unfold cK dB;simp) (.inr ⟨62,61::v,rfl,by decide⟩) ?_
   have d1:dK (dB 1) (62::61::v)=none:=by unfold dK;simp[dB]
   have d2:dK (dB 2) (62::61::v)=some v:=uu [62,61] v;have d3:dK (dB 3) (62::61::v)=none:=by unfold dK;simp[dB]
   simp only[fc,iN,d1,d2,d3]
  ·have hk:k=3:=hk;subst hk;refine key (60::v) (by unfold cK dB;simp) (.inr ⟨60,v,rfl,by decide⟩) ?_
   have d1:dK (dB 1) (60::v)=none:=by unfold dK;simp[dB]
   have d2:dK (dB 2) (60::v)=none:=by unfold dK;cases v<;>simp[dB]
   have d3:dK (dB 3) (60::v)=some v:=uu [60] v;simp only[fc,iN,d1,d2,d3]
noncomputable abbrev aoP:bg:=[(73,tL),(74,CW),(75,oa)]
theorem vX:aW U (bd ah aoP):=bc ⟨v7,JZ,z75,⟨⟩⟩
abbrev PE:Shape:=⟨[aM 2 2 0,ap 3,ar 4,bf 5 3000320,bf 6 3000384],[aO 2 [ae,br,br,ae],be 3000320 .str 5 0,be 3000384 .str 6 0],110⟩
abbrev Pq:List aN:=[(.norm,⟨[aM 2 2 0,ap 3,ar 4,bf 5 3000320,bf 6 3000384,ar 18],[aO 2 [ae,br,br,ae],be 3000320 .str 5 0,be 3000384 .str 6 0],110⟩)]
noncomputable def mr(y:PE.J):Option (aw Pq):=
(a_ y.2.2.2.1.length (0:Int)).bind fun a=>
(y.2.2.2.1[a]?).bind fun b=>
 bif(b==([100,105,114]:F)) then
 some (((),y.1.2.1,y.1.2.2.1,(),(),((y.2.2.2.1.length:Int)==(3:Int)),()),(y.2.1.1,y.2.1.2.1,y.2.1.2.2.1,y.2.1.2.2.2.1,()),y.2.2.1,y.2.2.2.1,())
else
 some (((),y.1.2.1,y.1.2.2.1,(),(),false,()),(y.2.1.1,y.2.1.2.1,y.2.1.2.2.1,y.2.1.2.2.2.1,()),y.2.2.1,y.2.2.2.1,())
theorem agn:aT U (an (codeOf Tryz.f180) 1 248) (a6 PE Pq mr):=cQ vX (by kernel_rfl) af fun y=>by kernel_rfl
abbrev PD:Shape:=⟨[aM 2 2 0,ap 3,ar 4,bf 5 3000320,bf 6 3000384],[aO 2 [ae,br,br,ae],be 3000320 .str 5 0,be 3000384 .str 6 0],110⟩
abbrev Pp:List aN:=[(.norm,⟨[aM 2 2 0,ap 3,ar 4,bf 5 3000320,bf 6 3000384,ar 39],[aO 2 [ae,br,br,ae],be 3000320 .str 5 0,be 3000384 .str 6 0],110⟩)]
noncomputable def nn(y:PD.J):Option (aw Pp):=
(a_ y.2.2.2.1.length (0:Int)).bind fun a=>
(y.2.2.2.1[a]?).bind fun b=>
 bif(b==([108,105,110,107]:F)) then
 some (((),y.1.2.1,y.1.2.2.1,(),(),((y.2.2.2.1.length:Int)==(3:Int)),()),(y.2.1.1,y.2.1.2.1,y.2.1.2.2.1,y.2.1.2.2.2.1,()),y.2.2.1,y.2.2.2.1,())
else
 some (((),y.1.2.1,y.1.2.2.1,(),(),false,()),(y.2.1.1,y.2.1.2.1,y.2.1.2.2.1,y.2.1.2.2.2.1,()),y.2.2.1,y.2.2.2.1,())
theorem agm:aT U (an (codeOf Tryz.f180) 1 998) (a6 PD Pp nn):=cQ vX (by kernel_rfl) af fun y=>by kernel_rfl
abbrev Ol:Shape:=⟨[aM 2 2 0,ap 3,ar 4,bf 5 3000320,bf 6 3000384],[aO 2 [ae,br,br,ae],be 3000320 .str 5 0,be 3000384 .str 6 0],110⟩
abbrev N5:List aN:=[(.norm,⟨[aM 2 2 0,ap 3,ar 4,bf 5 3000320,bf 6 3000384,ar 59],[aO 2 [ae,br,br,ae],be 3000320 .str 5 0,be 3000384 .str 6 0],110⟩)]
noncomputable def om(y:Ol.J):Option (aw N5):=
(a_ y.2.2.2.1.length (0:Int)).bind fun a=>
(y.2.2.2.1[a]?).bind fun b=>
 bif(b==([102,105,108,101]:F)) then
 some (((),y.1.2.1,y.1.2.2.1,(),(),((y.2.2.2.1.length:Int)==(4:Int)),()),(y.2.1.1,y.2.1.2.1,y.2.1.2.2.1,y.2.1.2.2.2.1,()),y.2.2.1,y.2.2.2.1,())
else
 some (((),y.1.2.1,y.1.2.2.1,(),(),false,()),(y.2.1.1,y.2.1.2.1,y.2.1.2.2.1,y.2.1.2.2.2.1,()),y.2.2.1,y.2.2.2.1,())
theorem aem:aT U (an (codeOf Tryz.f180) 1 3998) (a6 Ol N5 om):=cQ vX (by kernel_rfl) af fun y=>by kernel_rfl
abbrev NC:Shape:=⟨[aM 2 2 0,ap 3,ar 4,bf 5 3000320,bf 6 3000384,ad 7],[aO 2 [ae,br,br,ae],be 3000320 .str 5 0,be 3000384 .str 6 0],110⟩
abbrev Nv:List aN:=[(.norm,⟨[aM 2 2 0,ap 3,ar 4,bf 5 3000320,bf 6 3000384,ad 7,ar 88],[aO 2 [ae,br,br,ae],be 3000320 .str 5 0,be 3000384 .str 6 0],110⟩)]
noncomputable def uh(y:NC.J):Option (aw Nv):=
(a_ y.2.2.1.length (1:Int)).bind fun a=>
(y.2.2.1[a]?).bind fun b=>
(f75 ((y.1.2.2.2.2.2.1,(0:Int),(IntKind.i64.wrap ((b.length:Int)-(1:Int))),()),())).bind fun c=>
 bif(!(!c.1.1)) then
(a_ y.2.2.1.length (1:Int)).bind fun d=>
(y.2.2.1[d]?).bind fun e=>
(aP e y.1.2.2.2.2.2.1).bind fun f=>
 some (((),y.1.2.1,y.1.2.2.1,(),(),y.1.2.2.2.2.2.1,((f.toNat:Int) !=(10:Int)),()),(y.2.1.1,y.2.1.2.1,y.2.1.2.2.1,y.2.1.2.2.2.1,()),y.2.2.1,y.2.2.2.1,())
else
 some (((),y.1.2.1,y.1.2.2.1,(),(),y.1.2.2.2.2.2.1,true,()),(y.2.1.1,y.2.1.2.1,y.2.1.2.2.1,y.2.1.2.2.2.1,()),y.2.2.1,y.2.2.2.1,())
theorem acH:aT U (an (codeOf Tryz.f180) 1 63988) (a6 NC Nv uh):=cQ vX (by kernel_rfl) af fun y=>by kernel_rfl
abbrev i180:Shape:=⟨[ap 0],[],110⟩
abbrev vD:Shape:=⟨[aM 2 2 0,ap 3,ar 4],[aO 2 [ae,br,br,ae]],110⟩
noncomputable def f180(a:i180.J):Option vD.J:=
(f73 ((a.1.1,(10:Int),(1:Int),()),())).bind fun b=>
 bif(decide ((b.2.1.length:Int)<(2:Int))) then
 some (((),([]:F),false,()),(([]:F),(0:Int),(0:Int),([]:F),()),())
else
(a_ b.2.1.length (0:Int)).bind fun c=>
(b.2.1[c]?).bind fun d=>
(f73 ((d,(32:Int),(4:Int),()),())).bind fun e=>
(mr (((),([]:F),false,(),(),()),(([]:F),(0:Int),(0:Int),([]:F),()),b.2.1,e.2.1,())).bind fun f=>
 bif f.1.2.2.2.2.2.1 then
(a_ f.2.2.2.1.length (2:Int)).bind fun g=>
(f.2.2.2.1[g]?).bind fun h=>
(a_ f.2.2.2.1.length (1:Int)).bind fun i=>
(f.2.2.2.1[i]?).bind fun j=>
(f74 ((j,()),())).bind fun k=>
(a_ f.2.2.1.length (1:Int)).bind fun l=>
(f.2.2.1[l]?).bind fun m=>
 some (((),m,true,()),(h,(1:Int),k.1.1,([]:F),()),())
else
(nn (((),f.1.2.1,f.1.2.2.1,(),(),()),(f.2.1.1,f.2.1.2.1,f.2.1.2.2.1,f.2.1.2.2.2.1,()),f.2.2.1,f.2.2.2.1,())).bind fun n=>
 bif n.1.2.2.2.2.2.1 then
(a_ n.2.2.2.1.length (1:Int)).bind fun B=>
(n.2.2.2.1[B]?).bind fun p=>
(a_ n.2.2.2.1.length (2:Int)).bind fun q=>
(n.2.2.2.1[q]?).bind fun r=>
(a_ n.2.2.1.length (1:Int)).bind fun s=>
(n.2.2.1[s]?).bind fun t=>
 some (((),t,true,()),(p,(3:Int),(0:Int),r,()),())
else
(om (((),n.1.2.1,n.1.2.2.1,(),(),()),(n.2.1.1,n.2.1.2.1,n.2.1.2.2.1,n.2.1.2.2.2.1,()),n.2.2.1,n.2.2.2.1,())).bind fun u=>
 bif u.1.2.2.2.2.2.1 then
(a_ u.2.2.2.1.length (3:Int)).bind fun v=>
(u.2.2.2.1[v]?).bind fun w=>
(f74 ((w,()),())).bind fun x=>
(uh (((),u.1.2.1,u.1.2.2.1,(),(),x.1.1,()),(u.2.1.1,u.2.1.2.1,u.2.1.2.2.1,u.2.1.2.2.2.1,()),u.2.2.1,u.2.2.2.1,())).bind fun y=>
 bif y.1.2.2.2.2.2.2.1 then
 some (((),([]:F),false,()),(([]:F),(0:Int),(0:Int),([]:F),()),())
else
(a_ y.2.2.2.1.length (2:Int)).bind fun z=>
(y.2.2.2.1[z]?).bind fun A=>
(a_ y.2.2.2.1.length (1:Int)).bind fun bm=>
(y.2.2.2.1[bm]?).bind fun C=>
(f74 ((C,()),())).bind fun a'=>
(a_ y.2.2.1.length (1:Int)).bind fun E=>
(y.2.2.1[E]?).bind fun aZ=>
(bw aZ (0:Int) y.1.2.2.2.2.2.1).bind fun G=>
(a_ y.2.2.1.length (1:Int)).bind fun H=>
(y.2.2.1[H]?).bind fun I=>
(bw I (IntKind.i64.wrap (y.1.2.2.2.2.2.1+(1:Int))) (I.length:Int)).bind fun eV=>
 some (((),eV,true,()),(A,(2:Int),a'.1.1,G,()),())
else
 some (((),([]:F),false,()),(([]:F),(0:Int),(0:Int),([]:F),()),())
noncomputable def Wz:aF:=aK ah Tryz.f180 i180 vD [] f180
theorem amF:aE U 180 Wz:=aL vX Tryz.func180 (by kernel_rfl) (bb agn (bb agm (bb aem (bb acH af)))) (fun y=>by kernel_rfl) fun a=>by kernel_rfl
def gy(s:F):Int:=bif s.all cL&&decide (s.length<=6)&&!(s==[])&&!hY s then c_ s else-1
theorem pF(s:F)(hs:am s.length):f74 ((s,()),())=some ((gy s,()),()):=FJ ((s,()),()) hs
theorem Ec(n:Nat)(h:n<1000000):gy (Lib.itoa (n:Int))=(n:Int):=by
 have h1:=pF (Lib.itoa (n:Int)) (by rw[pK];have:=FD 5 n (by omega);unfold am;omega)
 rw[acZ n h] at h1;simp only[Option.some.injEq,Prod.mk.injEq] at h1;exact h1.1.1.symm
def qB(aS w2 cq r:F):Option (aC×F):=bif within (gy cq) 0 ((r.length:Int)-1) then(match r.drop (gy cq).toNat with|10::ey=>some (⟨w2,2,gy aS,r.take (gy cq).toNat⟩,ey)|_=>none) else none
def fR(ws:List F)(r:F):Option (aC×F):=match ws with
 |[O,aS,w2]=>bif O==hH then some (⟨w2,1,gy aS,[]⟩,r) else bif O==hC then some (⟨aS,3,0,w2⟩,r) else none
 |[O,aS,w2,cq]=>bif O==hZ then qB aS w2 cq r else none
 |_=>none
def mN(s:F):Option (aC×F):=match dj 10 s with
 |some (bT,r)=>fR (splitN 32 4 bT) r
 |none=>none
abbrev tY(B:Bool)(e:aC)(r:F):vD.J:=(((),(r,(B,()))),((e.path,(e.kind,(e.mode,(e.text,())))),()))
theorem Kl{n:Nat}(h:0<n):a_ n (0:Int)=some 0:=fm h
theorem Kk{n:Nat}(h:1<n):a_ n (1:Int)=some 1:=fm h
theorem YS{n:Nat}(h:2<n):a_ n (2:Int)=some 2:=fm h
theorem YR{n:Nat}(h:3<n):a_ n (3:Int)=some 3:=fm h
theorem O_(s:F)(hs:s.length<=2000000):∃(r:F) (e:aC),f180 ((s,()),())=some (tY (mN s).isSome e r)/\∀q,mN s=some q->q=(e,r):=by
 have c1:=lG 10 s (by omega) 1
 have c1:f73 ((s,((10:Int),((1:Int),()))),())=_:=c1;have zero:∀{B:Option (aC×F)} {x:Option vD.J},B=none->x=some (tY false ⟨[],0,0,[]⟩ [])->∃(r:F) (e:aC),x=some (tY B.isSome e r)/\∀q,B=some q->q=(e,r):=by
  intro B x aG hx;subst aG;exact⟨[],⟨[],0,0,[]⟩,hx,fun q au=>by cases au⟩
 have one:∀{B:Option (aC×F)} {x:Option vD.J} {e:aC} {r:F},B=some (e,r)->x=some (tY true e r)->∃(r:F) (e:aC),x=some (tY B.isSome e r)/\∀q,B=some q->q=(e,r):=by
  intro B x e r aG hx;subst aG;exact⟨r,e,hx,fun q au=>by cases au;rfl⟩
 cases au:dj 10 s with
 |none=>
  have eQ:splitN 10 1 s=[s]:=by unfold splitN;rw[au]
  rw[eQ] at c1;refine zero (by unfold mN;rw[au]) ?_
  have d:decide ((([s]:List F).length:Int)<2)=true:=rfl;simp only[f180,c1,Option.bind_some,d,cond_true]
 |some q=>
  obtain⟨bT,rest⟩:=q;have hl:=(iW au).1;have hl:s.length=bT.length+1+rest.length:=by rw[hl];simp;omega
  have eQ:splitN 10 1 s=[bT,rest]:=by unfold splitN;rw[au];rfl
  rw[eQ] at c1;have c2:=lG 32 bT (by omega) 4
  have c2:f73 ((bT,((32:Int),((4:Int),()))),())=_:=c2;have hr:mN s=fR (splitN 32 4 bT) rest:=by unfold mN;rw[au]
  have hm:=pw 32 4 bT;have hp:=Ny 32 4 bT;rw[hr];generalize splitN 32 4 bT=ws at c2 hm hp;have d:decide ((([bT,rest]:List F).length:Int)<2)=false:=rfl;have i0:a_ ([bT,rest]:List F).length (0:Int)=some 0:=rfl;have i1:a_ ([bT,rest]:List F).length (1:Int)=some 1:=rfl;have e4:([bT,rest]:List F)[0]? =some bT:=rfl;have dX:([bT,rest]:List F)[1]? =some rest:=rfl;have vN:∀w:F,(w==([100,105,114]:F))=(w==hH):=fun _=>rfl
  have Bw:∀w:F,(w==([108,105,110,107]:F))=(w==hC):=fun _=>rfl
  have sO:∀w:F,(w==([102,105,108,101]:F))=(w==hZ):=fun _=>rfl
  have other:∀(O:F) (more:List F),ws=O::more->((ws.length:Int)==3)=false->((ws.length:Int)==4)=false->fR ws rest=none->∃(r:F) (e:aC),f180 ((s,()),())=some (tY (fR ws rest).isSome e r)/\∀q,fR ws rest=some q->q=(e,r):=by
   intro O more hw h3 ay h;refine zero h ?_
   have g_:a_ ws.length (0:Int)=some 0:=Kl (by omega)
   have dw:ws[0]? =some O:=by rw[hw];rfl
   simp only[f180,c1,Option.bind_some,d,cond_false,i0,e4,c2,mr,g_,dw,h3];cases O==([100,105,114]:F)<;>simp only[cond_true,cond_false,Option.bind_some,nn,g_,dw,h3]<;>cases O==([108,105,110,107]:F)<;>simp only[cond_true,cond_false,Option.bind_some,om,g_,dw,ay]<;>cases O==([102,105,108,101]:F)<;>rfl
  match ws,other,c2,hm,hp with
  |[],other,c2,hm,hp=>exact absurd hp (by decide)
  |[O],other,c2,hm,hp=>exact other O [] rfl rfl rfl rfl
  |[O,aS],other,c2,hm,hp=>exact other O [aS] rfl rfl rfl rfl
  |O::aS::w2::cq::q5::more,other,c2,hm,hp=>exact other O _ rfl (by rw[beq_eq_false_iff_ne];simp;omega) (by rw[beq_eq_false_iff_ne];simp;omega) rfl
  |[O,aS,w2],_,c2,hm,hp=>
   have g_:a_ ([O,aS,w2]:List F).length (0:Int)=some 0:=rfl;have lA:a_ ([O,aS,w2]:List F).length (1:Int)=some 1:=rfl;have pk:a_ ([O,aS,w2]:List F).length (2:Int)=some 2:=rfl;have dw:([O,aS,w2]:List F)[0]? =some O:=rfl;have eD:([O,aS,w2]:List F)[1]? =some aS:=rfl;have fi:([O,aS,w2]:List F)[2]? =some w2:=rfl;have h3:((([O,aS,w2]:List F).length:Int)==3)=true:=rfl;have ay:((([O,aS,w2]:List F).length:Int)==4)=false:=rfl;have m1:=hm aS (by simp)
   have n1:=pF aS (by unfold am;omega)
   cases eT:O==hH with
   |true=>
    refine one (show fR [O,aS,w2] rest=some (⟨w2,1,gy aS,[]⟩,rest) by unfold fR;simp only[eT,cond_true]) ?_
    simp only[f180,c1,Option.bind_some,d,cond_false,i0,e4,c2,mr,g_,dw,h3,vN,eT,cond_true,pk,fi,lA,eD,n1,i1,dX]
   |false=>
    cases e1:O==hC with
    |true=>
     refine one (show fR [O,aS,w2] rest=some (⟨aS,3,0,w2⟩,rest) by unfold fR;simp only[eT,e1,cond_true,cond_false]) ?_
     simp only[f180,c1,Option.bind_some,d,cond_false,i0,e4,c2,mr,g_,dw,h3,vN,eT,cond_true,pk,fi,lA,eD,i1,dX,nn,Bw,e1]
    |false=>
     refine zero (show fR [O,aS,w2] rest=none by unfold fR;simp only[eT,e1,cond_false]) ?_
     simp only[f180,c1,Option.bind_some,d,cond_false,i0,e4,c2,mr,g_,dw,h3,ay,vN,eT,nn,Bw,e1,om];cases O==([102,105,108,101]:F)<;>rfl
  |[O,aS,w2,cq],_,c2,hm,hp=>
   have g_:a_ ([O,aS,w2,cq]:List F).length (0:Int)=some 0:=rfl;have lA:a_ ([O,aS,w2,cq]:List F).length (1:Int)=some 1:=rfl;have pk:a_ ([O,aS,w2,cq]:List F).length (2:Int)=some 2:=rfl;have LW:a_ ([O,aS,w2,cq]:List F).length (3:Int)=some 3:=rfl;have dw:([O,aS,w2,cq]:List F)[0]? =some O:=rfl;have eD:([O,aS,w2,cq]:List F)[1]? =some aS:=rfl;have fi:([O,aS,w2,cq]:List F)[2]? =some w2:=rfl;have mi:([O,aS,w2,cq]:List F)[3]? =some cq:=rfl;have h3:((([O,aS,w2,cq]:List F).length:Int)==3)=false:=rfl;have ay:((([O,aS,w2,cq]:List F).length:Int)==4)=true:=rfl;have m1:=hm aS (by simp)
   have m3:=hm cq (by simp)
   have n1:=pF aS (by unfold am;omega)
   have ix:=pF cq (by unfold am;omega)
   have b1:∀b:Bool,(bif b then some ((((),(([]:F),(false,((),((),(false,())))))),((([]:F),((0:Int),((0:Int),(([]:F),())))),([bT,rest],([O,aS,w2,cq],()))))) else some ((((),(([]:F),(false,((),((),(false,())))))),((([]:F),((0:Int),((0:Int),(([]:F),())))),([bT,rest],([O,aS,w2,cq],()))))))=some ((((),(([]:F),(false,((),((),(false,())))))),((([]:F),((0:Int),((0:Int),(([]:F),())))),([bT,rest],([O,aS,w2,cq],()))))):=fun b=>by cases b<;>rfl
   cases e2:O==hZ with
   |false=>
    refine zero (show fR [O,aS,w2,cq] rest=none by unfold fR;simp only[e2,cond_false]) ?_
    simp only[f180,c1,Option.bind_some,d,cond_false,i0,e4,c2,mr,g_,dw,h3,ay,b1,nn,om,sO,e2]
   |true=>
    have hw:fR [O,aS,w2,cq] rest=qB aS w2 cq rest:=by unfold fR;simp only[e2,cond_true]
    rw[hw];have jk:IntKind.i64.wrap (((rest.length:Nat):Int)-1)=(rest.length:Int)-1:=ee (by omega) (by omega)
    have hin:=nA ((gy cq,((0:Int),((rest.length:Int)-1,()))),());have hin:f75 ((gy cq,((0:Int),((rest.length:Int)-1,()))),())=some ((within (gy cq) 0 ((rest.length:Int)-1),()),()):=hin;cases hi:within (gy cq) 0 ((rest.length:Int)-1) with
    |false=>
     rw[hi] at hin;refine zero (by unfold qB;rw[hi];rfl) ?_
     simp only[f180,c1,Option.bind_some,d,cond_false,i0,e4,c2,mr,g_,dw,h3,ay,b1,nn,om,sO,e2,cond_true,LW,mi,ix,uh,i1,dX,jk,hin,Bool.not_false,Bool.not_true]
    |true=>
     rw[hi] at hin;have hb:=rN hi;obtain⟨n,hn⟩:∃n:Nat,gy cq=(n:Int):=⟨(gy cq).toNat,by omega⟩
     rw[hn] at hin ix hb;have hlt:n<rest.length:=by omega
     have dI:qB aS w2 cq rest=match rest.drop n with|10::ey=>some (⟨w2,2,gy aS,rest.take n⟩,ey)|_=>none:=by
      unfold qB;rw[hi,hn];rfl
     have vq:rest.drop n=rest[n]::rest.drop (n+1):=List.drop_eq_getElem_cons hlt;have hx:aP rest ((n:Nat):Int)=some rest[n]:=by rw[bQ];exact List.getElem?_eq_getElem hlt
     rw[vq] at dI;rw[dI];generalize rest[n]=b at hx;by_cases qT:b=10
     ·subst qT;have t1:((((10:UInt8).toNat:Nat):Int) !=10)=false:=rfl;have s1:bw rest 0 ((n:Nat):Int)=some (rest.take n):=hU (by omega)
      have aqP:IntKind.i64.wrap (((n:Nat):Int)+1)=((n+1:Nat):Int):=bK (by unfold am;omega)
      have s2:bw rest ((n+1:Nat):Int) ((rest.length:Nat):Int)=some (rest.drop (n+1)):=gu (by omega)
      refine one rfl ?_
      simp only[f180,c1,Option.bind_some,d,cond_false,i0,e4,c2,mr,g_,dw,h3,ay,b1,nn,om,sO,e2,cond_true,LW,mi,ix,uh,i1,dX,jk,hin,Bool.not_false,Bool.not_true,hx,t1,pk,fi,lA,eD,n1,s1,aqP,s2]
     ·have t1:(((b.toNat:Nat):Int) !=10)=true:=by
       rw[bne_iff_ne];intro h;exact qT (UInt8.toNat_inj.1 (by have:((10:UInt8).toNat:Int)=10:=rfl;omega))
      refine zero (by split<;>first|rfl|(rename_i h;simp at h;exact absurd h.1 qT)) ?_
      simp only[f180,c1,Option.bind_some,d,cond_false,i0,e4,c2,mr,g_,dw,h3,ay,b1,nn,om,sO,e2,cond_true,LW,mi,ix,uh,i1,dX,jk,hin,Bool.not_false,Bool.not_true,hx,t1]
theorem QP{s r:F}{e:aC}(h:mN s=some (e,r)):e.path.length<=s.length/\e.text.length<=s.length/\r.length<s.length:=by
 unfold mN at h;cases au:dj 10 s with
 |none=>rw[au] at h;cases h
 |some q=>
  obtain⟨bT,rest⟩:=q;rw[au] at h;have hl:=(iW au).1;have hl:s.length=bT.length+1+rest.length:=by rw[hl];simp;omega
  have hm:=pw 32 4 bT;have h:fR (splitN 32 4 bT) rest=some (e,r):=h;generalize splitN 32 4 bT=ws at h hm;unfold fR at h;split at h
  ·rename_i O aS w2;have m1:=hm aS (by simp)
   have m2:=hm w2 (by simp)
   cases eT:O==hH<;>simp only[eT,cond_true,cond_false] at h
   ·cases e1:O==hC<;>simp only[e1,cond_true,cond_false] at h
    ·cases h
    ·simp only[Option.some.injEq,Prod.mk.injEq] at h;obtain⟨rfl,rfl⟩:=h;exact⟨by show aS.length<=_;omega,by show w2.length<=_;omega,by omega⟩
   ·simp only[Option.some.injEq,Prod.mk.injEq] at h;obtain⟨rfl,rfl⟩:=h;exact⟨by show w2.length<=_;omega,by show 0<=_;omega,by omega⟩
  ·rename_i O aS w2 cq;have m2:=hm w2 (by simp)
   cases e2:O==hZ<;>simp only[e2,cond_true,cond_false] at h
   ·cases h
   ·unfold qB at h;cases da:within (gy cq) 0 ((rest.length:Int)-1)<;>simp only[da,cond_true,cond_false] at h
    ·cases h
    ·split at h
     ·rename_i ey Z;simp only[Option.some.injEq,Prod.mk.injEq] at h;obtain⟨rfl,rfl⟩:=h;have KK:=congrArg List.length Z;simp only[List.length_drop,List.length_cons] at KK;exact⟨by show w2.length<=_;omega,by show(rest.take _).length<=_;simp;omega,by omega⟩
     ·cases h
  ·cases h
theorem ahC{e:aC}(h:eK e=true)(r:F):mN (d_ e++r)=some (e,r):=by
 have hw:=(DU h).1;unfold mN;rw[OI h];show fR (splitN 32 4 (oK e)) (vk e r)=_;obtain⟨n,hn,iy⟩:=E4 h;have g2:=Ec n (by omega)
 have qE:splitN 32 4 (oK e)=lN e:=MJ _ 4 (by unfold lN;cases e.kind==1<;>cases e.kind==3<;>simp) hw (by unfold lN;cases e.kind==1<;>cases e.kind==3<;>simp)
 rw[qE];obtain⟨p,k,m,t⟩:=e;have hn:m=n:=hn;subst hn;rcases uj h with hk|hk|hk
 ·have hk:k=1:=hk;subst hk;have aq:t=[]:=OT h rfl;subst aq;show fR [hH,Lib.itoa (n:Int),p] r=_;unfold fR;have e2:(hH==hH)=true:=by decide
  simp only[e2,g2,cond_true]
 ·have hk:k=2:=hk;subst hk;have hb:t.length<=80:=by
   have:=NO h rfl;unfold kg at this;simp only[Bool.and_eq_true,decide_eq_true_eq] at this;exact this.2
  have aA:=Ec t.length (by omega)
  show fR [hZ,Lib.itoa (n:Int),p,Lib.itoa (t.length:Int)] (t++10::r)=_;unfold fR;have bz:(hZ==hZ)=true:=by decide
  simp only[bz,cond_true];unfold qB;have d1:(t++10::r).drop t.length=10::r:=by simp
  have d2:(t++10::r).take t.length=t:=by simp
  have hw:within (t.length:Int) 0 (((t++10::r).length:Int)-1)=true:=by
   unfold within;rw[decide_eq_true (by omega),decide_eq_true (by simp;omega)]
   rfl
  simp only[aA,hw,cond_true,Int.toNat_natCast,d1,d2,g2]
 ·have hk:k=3:=hk;subst hk;obtain⟨_,hm⟩:=DR h rfl;have hm:(n:Int)=0:=hm;show fR [hC,p,t] r=_;unfold fR;have e1:(hC==hH)=false:=by decide
  have e2:(hC==hC)=true:=by decide
  simp only[e1,e2,cond_true,cond_false];rw[hm]
end Go.Proofs
