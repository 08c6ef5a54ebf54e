/- FnExactDiskOk: the program's DiskOk returns what the reference's returns, for all arguments. (part 4 of 7: JkKTy, JkKSp, JkKOp, JkKBc, JkKEn, JkKF115, JkKF74, JkKF75, JkKF87, JkKF99, JkKPuA, JkKF73, JkKPuB, JkKFH271, JkKF244, JkKF209, JkKF212, JkKIt, JkKF151, JkKF100, JkKF102, JkKF140, JkKF88, JkKF192, JkK) Conditions: none beyond the statement. -/
import Derived.Test.YthhecoidfjkmeaaGreatDoorZFnExactDiskOk2
import Derived.Tactics
import Derived.Deep.RegionLaw
import Derived.Shelf.Abstract
import Derived.Test.YthhecoidfjkmeaaGreatDoorProg
import Derived.KernelRfl
import Derived.Lib.Builder
import Derived.Lib.UnsafeStr
import Derived.WalkKit
import Derived.Shelf.RegionOpenPlain
set_option linter.unusedSimpArgs false
set_option maxRecDepth 100000
set_option linter.unusedVariables false
namespace Go.Proofs
open Go.Jk
noncomputable abbrev U:Program:=Tryz.prog
noncomputable def an4:List (Nat×b8):=[
(2,.int .i64),
(3,.int .i64),
(4,.bool),
(5,.int .u8),
(6,.int .u8),
(7,.struct [(0,1),(1,1),(2,1),(3,1)] 4 [.d (.int .i64 0),.d (.int .i64 0),.d (.bool false),.d (.int .u8 0)] false),
(8,.struct [(0,1),(1,1),(2,1),(3,1)] 4 [.d (.int .i64 0),.d (.int .i64 0),.d (.bool false),.d (.int .u8 0)] false),
(9,.str),
(10,.str),
(11,.str),
(12,.int .u64),
(13,.struct [(0,1),(1,1)] 2 [.d (.str []),.d (.int .u64 0)] false),
(14,.struct [(0,1),(1,1)] 2 [.d (.str []),.d (.int .u64 0)] false),
(15,.ptr),
(16,.ptr),
(17,.ptr),
(18,.struct [(0,1)] 1 [.cN (.pointer none)] false),
(19,.struct [(0,1)] 1 [.cN (.pointer none)] false),
(20,.iface),
(21,.int .i32),
(22,.struct [(0,1),(1,1)] 2 [.d (.str []),.d (.str [])] false),
(23,.struct [(0,1),(1,1)] 2 [.d (.str []),.d (.str [])] false),
(26,.struct [(0,1),(1,1)] 2 [.d (.str []),.d (.str [])] false),
(29,.slice 115 .pack 80),
(30,.struct [(0,1)] 1 [.nil .pack] false),
(31,.struct [(0,1)] 1 [.nil .pack] false),
(34,.slice 66 .pack 80),
(35,.struct [(0,1)] 1 [.nil .pack] false),
(36,.struct [(0,1)] 1 [.nil .pack] false),
(41,.slice 120 .file 32),
(42,.struct [(0,1),(1,1),(2,2)] 4 [.nil .file,.nil .pack,.d (.str []),.d (.str [])] false),
(43,.struct [(0,1),(1,1),(2,2)] 4 [.nil .file,.nil .pack,.d (.str []),.d (.str [])] false),
(46,.slice 124 .file 32),
(47,.struct [(0,1),(1,1),(2,2)] 4 [.nil .file,.nil .pack,.d (.str []),.d (.str [])] false),
(48,.struct [(0,1),(1,1),(2,2)] 4 [.nil .file,.nil .pack,.d (.str []),.d (.str [])] false),
(52,.slice 5 .u8 1),
(63,.slice 133 .need 40),
(64,.slice 178 .entry 48),
(65,.struct [(0,1),(1,1),(2,1),(3,1)] 4 [.d (.str []),.d (.str []),.nil .need,.nil .entry] false),
(66,.struct [(0,1),(1,1),(2,1),(3,1)] 4 [.d (.str []),.d (.str []),.nil .need,.nil .entry] false),
(84,.ptr),
(89,.ptr),
(90,.struct [(0,1),(1,1)] 2 [.cN (.pointer none),.nil .u8] false),
(91,.struct [(0,1),(1,1)] 2 [.cN (.pointer none),.nil .u8] false),
(92,.iface),
(93,.iface),
(103,.slice 9 .str 16),
(109,.slice 3 .i64 8),
(112,.slice 209 .need 40),
(113,.slice 211 .entry 48),
(114,.struct [(0,1),(1,1),(2,1),(3,1)] 4 [.d (.str []),.d (.str []),.nil .need,.nil .entry] false),
(115,.struct [(0,1),(1,1),(2,1),(3,1)] 4 [.d (.str []),.d (.str []),.nil .need,.nil .entry] false),
(119,.struct [(0,1),(1,1)] 2 [.d (.str []),.d (.str [])] false),
(120,.struct [(0,1),(1,1)] 2 [.d (.str []),.d (.str [])] true),
(124,.struct [(0,1),(1,1)] 2 [.d (.str []),.d (.str [])] true),
(132,.struct [(0,1),(1,1),(2,1)] 3 [.d (.str []),.d (.int .i64 0),.d (.str [])] false),
(133,.struct [(0,1),(1,1),(2,1)] 3 [.d (.str []),.d (.int .i64 0),.d (.str [])] true),
(140,.struct [(0,1),(1,1)] 2 [.nil .u8,.d (.int .i64 0)] false),
(141,.struct [(0,1),(1,1)] 2 [.nil .u8,.d (.int .i64 0)] false),
(144,.ptr),
(153,.int .u32),
(154,.arr 153 .u32 8),
(155,.int .u64),
(157,.slice 153 .u32 4),
(164,.func),
(177,.struct [(0,1),(1,1),(2,1),(3,1)] 4 [.d (.str []),.d (.int .i64 0),.d (.int .i64 0),.d (.str [])] false),
(178,.struct [(0,1),(1,1),(2,1),(3,1)] 4 [.d (.str []),.d (.int .i64 0),.d (.int .i64 0),.d (.str [])] true),
(183,.slice 3 .i64 8),
(202,.arr 153 .u32 64),
(203,.int .u64),
(209,.struct [(0,1),(1,1),(2,1)] 3 [.d (.str []),.d (.int .i64 0),.d (.str [])] true),
(211,.struct [(0,1),(1,1),(2,1),(3,1)] 4 [.d (.str []),.d (.int .i64 0),.d (.int .i64 0),.d (.str [])] true),
(251,.arr 4 .bool 256),
(252,.arr 4 .bool 256),
(264,.ptr),
(271,.struct [(0,1),(1,1)] 2 [.d (.int .u8 0),.d (.int .u8 0)] false),
(272,.struct [(0,1),(1,1)] 2 [.d (.int .u8 0),.d (.int .u8 0)] false),
(277,.struct [(0,1),(1,1),(2,1),(3,1)] 4 [.cN (.pointer none),.cN (.pointer none),.cN (.pointer none),.d (.str [])] false),
(278,.struct [(0,1),(1,1),(2,1),(3,1)] 4 [.cN (.pointer none),.cN (.pointer none),.cN (.pointer none),.d (.str [])] false),
(282,.int .u8),
(283,.int .u8),
(285,.int .i32),
(286,.int .i32),
(287,.struct [(0,1),(1,1),(2,1),(3,1),(4,1),(5,1),(6,1),(7,1),(8,1),(9,1),(10,1)] 11 [.d (.int .u64 0),.d (.int .u64 0),.d (.int .u32 0),.d (.int .u8 0),.d (.int .u8 0),.d (.int .u8 0),.d (.int .u8 0),.cN .nilFunc,.cN (.pointer none),.d (.int .i32 0),.d (.int .i32 0)] false),
(288,.struct [(0,1),(1,1),(2,1),(3,1),(4,1),(5,1),(6,1),(7,1),(8,1),(9,1),(10,1)] 11 [.d (.int .u64 0),.d (.int .u64 0),.d (.int .u32 0),.d (.int .u8 0),.d (.int .u8 0),.d (.int .u8 0),.d (.int .u8 0),.cN .nilFunc,.cN (.pointer none),.d (.int .i32 0),.d (.int .i32 0)] false)]
noncomputable def tt:TypeId->b8:=AW an4
noncomputable def aj:Env:=⟨tt,[(198,266)],[230],[59],[112],[65],[(0,⟨.u32,ii⟩)]⟩
abbrev bQ(s:Shape)(t:List aO):=Option (Sum s.J (ay t))
theorem aik(s p:ByteArray)(k:Int)(w:World):Calls U 232 #[.string s,.string p,.int .i64 k] w fun e w'=>
  e=.returned (.func (.func 266) #[] #[.pointer (some ⟨w.heap.size+1,0,none⟩),.pointer (some ⟨w.heap.size,0,none⟩),.pointer (some ⟨w.heap.size+2,0,none⟩)])/\
  w'=((w.alloc (.cells #[.string s] 9)).alloc (.cells #[.string p] 9)).alloc (.cells #[.int .i64 k] 3):=by
 go_enter Tryz.func232,Tryz.ntmps232
 go_wp2
 go_ret
 exact⟨rfl,rfl⟩
theorem ail(s p:ByteArray)(w:World):Calls U 198 #[.string s,.string p] w fun e w'=>
  e=.returned (.func (.func 266) #[] #[.pointer (some ⟨w.heap.size+1,0,none⟩),.pointer (some ⟨w.heap.size,0,none⟩),.pointer (some ⟨w.heap.size+2,0,none⟩)])/\
  w'=((w.alloc (.cells #[.string s] 9)).alloc (.cells #[.string p] 9)).alloc (.cells #[.int .i64 0] 3):=by
 go_enter Tryz.func198,Tryz.ntmps198
 go_wp2_with (go_at_call 232;refine(aik _ _ _ _).mono ?_;rintro e w' ⟨rfl,rfl⟩)
 go_ret
 exact⟨rfl,rfl⟩
theorem akc:zt U 198 266:=fun a b w=>.inl ⟨enters_of Tryz.func198 (by kernel_rfl) rfl _ _,(ail a b w).mono fun e w' h=>by obtain⟨rfl,rfl⟩:=h;exact⟨9,3,rfl,rfl⟩⟩
theorem aoj(w:World):Calls U 59 #[.slice none 0 0] w fun e w'=>e=.returned (.pointer (some ⟨w.heap.size,0,none⟩))/\w'=w.alloc (.cells #[.slice none 0 0,.int .i64 0] 141):=by
 go_enter Tryz.func59,Tryz.ntmps59
 go_wp2
 go_ret
 exact⟨rfl,rfl⟩
theorem aoi(w:World)(a:Addr)(n c:Nat)(h:n<=2000):Calls U 59 #[.slice (some a) n c] w fun e w'=>e=.returned (.pointer (some ⟨w.heap.size,0,none⟩))/\w'=w.alloc (.cells #[.slice (some a) n c,.int .i64 0] 141):=by
 have h1:¬((n:Int)>2000):=by omega
 go_enter Tryz.func59,Tryz.ntmps59
 go_wp2
 go_ret
 exact⟨rfl,rfl⟩
theorem aok(w:World)(a:Addr)(n c:Nat)(h:2000<n)(hc:n<=c):Calls U 59 #[.slice (some a) n c] w fun e w'=>e=.returned (.pointer (some ⟨w.heap.size,0,none⟩))/\w'=w.alloc (.cells #[.slice (some a) 2000 c,.int .i64 0] 141):=by
 have h1:((n:Int)>2000):=by omega
 go_enter Tryz.func59,Tryz.ntmps59
 go_wp2
 go_ret
 exact⟨rfl,rfl⟩
theorem akG:Ar U 59:=fun xs v w av hr=>.inl ⟨enters_of Tryz.func59 (by kernel_rfl) rfl _ _,by
 have fin:∀{v:Value} {u:Value},bA w av (.sl .u8 (xs.take 2000)) u->Calls U 59 #[v] w (fun e w'=>e=.returned (.pointer (some ⟨w.heap.size,0,none⟩))/\w'=w.alloc (.cells #[u,.int .i64 0] 141))->
   Calls U 59 #[v] w fun e w'=>match e,w' with
    |.returned v',w'=>∃u T,bA w av (.sl .u8 (xs.take 2000)) u/\v'=.pointer (some ⟨w.heap.size,0,none⟩)/\w'=w.alloc (.cells #[u,.int .i64 0] T)
    |_,_=>False:=fun hu hc=>hc.mono fun e w' h=>by obtain⟨rfl,rfl⟩:=h;exact⟨_,_,hu,rfl,rfl⟩
 cases hr with
 |nil=>exact fin (.nil .u8) (aoj w)
 |sl t xs a cap cs n hn hcap hb hl hc hr=>
  by_cases h:2000<n
  ·refine fin (u:=.slice (some a) 2000 cap) ?_ (aok w a n cap h hcap);have hlen:(xs.take 2000).length=2000:=by simp only[List.length_take];omega
   have hf:flat .u8 (xs.take 2000)=(flat .u8 xs).take 2000:=by rw[m_];rfl
   refine .sl .u8 (xs.take 2000) a cap (cs.take 2000) 2000 hlen.symm (by omega) (fun hx=>hb (fun e=>hx (by rw[e];rfl))) (by rw[hf,List.length_take,List.length_take,hl]) (fun j u hu=>?_) (fun j h1 h2=>?_)
   ·rw[List.getElem?_take] at hu;split at hu
    ·exact hc j u hu
    ·cases hu
   ·have h1':j<(flat .u8 xs).length:=by rw[hf,List.length_take] at h1;omega
    have h2':j<cs.length:=by rw[List.length_take] at h2;omega
    have e1:(flat .u8 (xs.take 2000))[j]=(flat .u8 xs)[j]:=by simp only[hf,List.getElem_take]
    have e2:(cs.take 2000)[j]=cs[j]:=List.getElem_take;rw[e1,e2];exact hr j h1' h2'
  ·refine fin (u:=.slice (some a) n cap) ?_ (aoi w a n cap (by omega))
   rw[List.take_of_length_le (by omega)]
   exact .sl .u8 xs a cap cs n hn hcap hb hl hc hr⟩
set_option maxHeartbeats 1000000 in
theorem ahQ(b:Nat)(w:World)(h0:w.cell? ⟨b,0,none⟩=some (.pointer (some ⟨b,0,none⟩))):
  Calls U 112 #[.pointer (some ⟨b,0,none⟩)] w fun e w'=>e=.returned (.tuple #[])/\w'=w:=by
 obtain⟨j,hj,_⟩:=Option.map_eq_some_iff.1 (show(U.info? 91).map (·.size)=some 2 by kernel_rfl)
 go_enter Tryz.func112,Tryz.ntmps112
 go_wp2
 rw[Lib.run_neq_ptr_same w _ (show U.underlying 89=some (.pointer 91) by kernel_rfl) hj]
 go_wp2
 go_end0
 exact⟨rfl,rfl⟩
set_option maxHeartbeats 1000000 in
theorem agm(b:Nat)(w:World)(h0:w.cell? ⟨b,0,none⟩=some (.pointer none))(hsh:w.shape? b=some (91,2))(hfz:w.frozen? ⟨b,0,none⟩=false):
  Calls U 112 #[.pointer (some ⟨b,0,none⟩)] w fun e w'=>e=.returned (.tuple #[])/\w'=w.setCell ⟨b,0,none⟩ (.pointer (some ⟨b,0,none⟩)):=by
 obtain⟨j,hj,hjs⟩:=Option.map_eq_some_iff.1 (show(U.info? 91).map (·.size)=some 2 by kernel_rfl)
 go_enter Tryz.func112,Tryz.ntmps112
 go_wp2
 rw[Lib.run_to_unsafe w ⟨b,0,none⟩ (show U.underlying 89=some (.pointer 91) by kernel_rfl) (show U.underlying 193=some .unsafePointer by kernel_rfl) hj (by rw[hjs];decide) hsh (Nat.zero_lt_succ 1)]
 simp only[Result.andThen];rw[Oper.upon_value]
 go_wp2
 rw[run_callFunc_extern Tryz.func164 (by kernel_rfl) (by kernel_rfl) (by kernel_rfl) (e:=Extern.AbiNoEscape.same) (by kernel_rfl)]
 rw[Lib.run_noEscape];simp only[Result.andThen];rw[Oper.upon_value]
 go_wp2
 rw[Lib.run_from_unsafe w ⟨b,0,none⟩ (show U.underlying 193=some .unsafePointer by kernel_rfl) (show U.underlying 89=some (.pointer 91) by kernel_rfl) hj hsh (by kernel_rfl)]
 simp only[Result.andThen];rw[Oper.upon_value]
 go_wp2
 go_end0
 exact⟨rfl,rfl⟩
theorem ai5:As U 112:=by
 intro b p v w hb hp;refine .inl ⟨enters_of Tryz.func112 (by kernel_rfl) rfl _ _,?_⟩
 rcases hp with rfl|rfl
 ·refine(agm b w (by rw[Lib.cell_of_heap hb];rfl) (by simp[World.shape?,hb];rfl) (by simp[World.frozen?,hb])).mono ?_
  rintro e w' ⟨rfl,rfl⟩;refine⟨rfl,?_⟩;rw[setCell_eq_setRow w b 0 _ _ _ _ hb];rfl
 ·refine(ahQ b w (by rw[Lib.cell_of_heap hb];rfl)).mono ?_
  rintro e w' ⟨rfl,rfl⟩;exact⟨rfl,(setRow_self w' b _ _ _ hb).symm⟩
section
variable {P:Program}(w:World)
theorem KY:∀(xs:List Int) (a:Addr) (acc:ByteArray),(∀j x,xs[j]? =some x->w.cell? (a.add j)=some (.int .u8 x))->
  (loadBytes a acc xs.length).run P w=.ok ⟨acc.data++(strOf xs).toArray⟩ w
 |[],a,acc,_=>by simp[loadBytes,strOf]
 |x::l,a,acc,h=>by
  have h0:w.cell? a=some (.int .u8 x):=by
   have:=h 0 x rfl;simpa[Addr.add] using this
  have ih:=KY l (a.add 1) (acc.push (UInt8.ofNat x.toNat)) (fun j y hy=>by
   have:=h (j+1) y (by simpa using hy)
   have e:(a.add 1).add j=a.add (j+1):=by
    unfold Addr.add;by_cases hj:j=0
    ·subst hj;simp
    ·simp[hj];omega
   rw[e];exact this)
  have hx:(x.toNat).toUInt8=UInt8.ofNat x.toNat:=rfl;simp only[List.length_cons,loadBytes,Sem.run_bind,run_load,h0,Result.andThen,hx];rw[ih];congr 1
  apply ByteArray.ext;simp[ByteArray.push,strOf]
theorem YM(pt it ty e:TypeId)(hp:P.underlying pt=some (.pointer e))(hc:P.cellsOf e=1)(g cells:Nat)(hsh:w.shape? g=some (e,cells))(l:List Int)(h0:l≠[])(hn:l.length<=cells)(h63:l.length<=9223372036854775807)
  (hcell:∀j x,l[j]? =some x->w.cell? ((⟨g,0,none⟩:Addr).add j)=some (.int .u8 x)):
  (Builtin.unsafeString_ #[pt,it] ty #[.pointer (some ⟨g,0,none⟩),.int .i64 l.length]).run P w=.ok (.string ⟨(strOf l).toArray⟩) (w.freeze ⟨g,0,none⟩ l.length):=by
 have hl:l.length≠0:=by simpa using h0
 have hlb:=KY (P:=P) w l ⟨g,0,none⟩ .empty hcell;have hlies:=Lib.liesAt_bytes (P:=P) hc (cells/P.cellsOf e) l.length (by rw[hc];simpa using hn)
 have h63':¬(9223372036854775807:Int)<(l.length:Int):=by omega
 have hmax:IntKind.i64.max=9223372036854775807:=rfl;have hneg:¬(l.length:Int)<0:=by omega
 change Sem.run P (bind (asInt (.int .i64 (l.length:Int))) _) w=_;simp[asInt,asIntOf,hmax,h63',hneg,hl,variablesAt,hsh,elemOf,run_underlying hp,hlies,hlb]
theorem _E(a:Addr)(n:Nat):(w.freeze a n).os=w.os/\(w.freeze a n).tape=w.tape/\(w.freeze a n).output=w.output/\(w.freeze a n).heap.size=w.heap.size/\
  (∀c,c≠a.block->(w.freeze a n).heap[c]? =w.heap[c]?)/\∀cur e fz,w.heap[a.block]? =some (.cells cur e fz)->∃fz',(w.freeze a n).heap[a.block]? =some (.cells cur e fz'):=by
 unfold World.freeze;split
 ·exact⟨rfl,rfl,rfl,rfl,fun _ _=>rfl,fun cur e fz h=>⟨fz,h⟩⟩
 ·refine⟨rfl,rfl,rfl,by simp,fun c hc=>?_,fun cur e fz h=>?_⟩
  ·simp only[Array.getElem?_modify];rw[if_neg (by omega)]
  ·simp only[Array.getElem?_modify,if_true,h,Option.map_some];exact⟨_,rfl⟩
end
abbrev pT(w:World)(v:Value)(xs:List Int)(e:Ending)(w':World):Prop:=e=.returned (.string ⟨(strOf xs).toArray⟩)/\w'.os=w.os/\w'.tape=w.tape/\w'.output=w.output/\w.heap.size<=w'.heap.size/\
   (∀c,c<w.heap.size->bG v≠some c->w'.heap[c]? =w.heap[c]?)/\∀c cur e fz,bG v=some c->w.heap[c]? =some (.cells cur e fz)->∃fz',w'.heap[c]? =some (.cells cur e fz')
set_option maxHeartbeats 2000000 in
theorem ai7(b:Nat)(p:Value)(T:TypeId)(w:World)(hbk:w.heap[b]? =some (.cells #[p,.slice none 0 0] T (0,0))):
  Calls U 65 #[.pointer (some ⟨b,0,none⟩)] w (pT w (.slice none 0 0) []):=by
 have hUS:∀W q,(Builtin.unsafeString_ #[144,3] 9 #[.pointer q,.int .i64 0]).run U W=.ok (.string .empty) W:=fun W q=>Lib.run_unsafeString_none W _ _ _ q
 have c1:w.drew.cell? ⟨b,1,none⟩=some (.slice none 0 0):=by
  have:w.drew.heap[b]? =some (.cells #[p,.slice none 0 0] T (0,0)):=hbk;rw[Lib.cell_of_heap this];rfl
 have mixed:U.follows .mixedOrders=true:=by kernel_rfl
 have hSD:(Builtin.unsafeSliceData_ #[52] 144 #[.slice none 0 0]).run U w.drew=.ok (.pointer none) w.drew:=rfl;go_enter Tryz.func65,Tryz.ntmps65
 go_wp2
 go_region_o
 all_goals(go_wp2;go_ret;exact⟨rfl,rfl,rfl,rfl,Nat.le_refl _,fun _ _ _=>rfl,fun c cur e fz h=>by cases h⟩)
set_option maxHeartbeats 2000000 in
theorem aer(b g:Nat)(p:Value)(T:TypeId)(cur:Array Value)(w:World)(hbk:w.heap[b]? =some (.cells #[p,.slice (some ⟨g,0,none⟩) 0 0] T (0,0)))(fz:Nat×Nat)(hg:w.heap[g]? =some (.cells cur 5 fz)):
  Calls U 65 #[.pointer (some ⟨b,0,none⟩)] w (pT w (.slice (some ⟨g,0,none⟩) 0 0) []):=by
 have hUS:∀W q,(Builtin.unsafeString_ #[144,3] 9 #[.pointer q,.int .i64 0]).run U W=.ok (.string .empty) W:=fun W q=>Lib.run_unsafeString_none W _ _ _ q
 have hlt:b<w.heap.size:=(Array.getElem?_eq_some_iff.1 hbk).1;have c1:w.drew.cell? ⟨b,1,none⟩=some (.slice (some ⟨g,0,none⟩) 0 0):=by
  have:w.drew.heap[b]? =some (.cells #[p,.slice (some ⟨g,0,none⟩) 0 0] T (0,0)):=hbk;rw[Lib.cell_of_heap this];rfl
 have mixed:U.follows .mixedOrders=true:=by kernel_rfl
 have t144:U.underlying 144=some (.pointer 5):=by kernel_rfl
 have hSD:(Builtin.unsafeSliceData_ #[52] 144 #[.slice (some ⟨g,0,none⟩) 0 0]).run U w.drew=.ok (.pointer (some ⟨w.drew.heap.size,0,none⟩)) (w.drew.alloc (.view ⟨g,0,none⟩ 5)):=
  Lib.run_unsafeSliceData_zero w.drew _ _ 5 t144 ⟨g,0,none⟩ 0 (5,cur.size) (by have hg':w.drew.heap[g]? =some (.cells cur 5 fz):=hg;simp[World.shape?,hg'])
 have c2:(w.drew.alloc (.view ⟨g,0,none⟩ 5)).cell? ⟨b,1,none⟩=some (.slice (some ⟨g,0,none⟩) 0 0):=by
  have:(w.drew.alloc (.view ⟨g,0,none⟩ 5)).heap[b]? =_:=(Lib.alloc_old w.drew _ b hlt).trans hbk;rw[Lib.cell_of_heap this];rfl
 have c3:(w.alloc (.view ⟨g,0,none⟩ 5)).drew.cell? ⟨b,1,none⟩=some (.slice (some ⟨g,0,none⟩) 0 0):=c2;have c0:w.cell? ⟨b,1,none⟩=some (.slice (some ⟨g,0,none⟩) 0 0):=c1;have fin:pT w (.slice (some ⟨g,0,none⟩) 0 0) [] (.returned (.string .empty)) (w.drew.alloc (.view ⟨g,0,none⟩ 5)):=by
  refine⟨rfl,rfl,rfl,rfl,by simp,fun c hc _=>Lib.alloc_old w.drew _ c hc,fun c cur' e fz' h h2=>?_⟩
  cases h;exact⟨fz',(Lib.alloc_old w.drew _ g (Array.getElem?_eq_some_iff.1 hg).1).trans h2⟩
 go_enter Tryz.func65,Tryz.ntmps65
 go_wp2
 go_region_o
 all_goals(go_wp2;go_ret;exact fin)
set_option maxHeartbeats 2000000 in
theorem ahN(b g cap:Nat)(p:Value)(T:TypeId)(w:World)(hc0:cap≠0)(hbk:w.heap[b]? =some (.cells #[p,.slice (some ⟨g,0,none⟩) 0 cap] T (0,0))):
  Calls U 65 #[.pointer (some ⟨b,0,none⟩)] w (pT w (.slice (some ⟨g,0,none⟩) 0 cap) []):=by
 have hUS:∀W q,(Builtin.unsafeString_ #[144,3] 9 #[.pointer q,.int .i64 0]).run U W=.ok (.string .empty) W:=fun W q=>Lib.run_unsafeString_none W _ _ _ q
 have c1:w.drew.cell? ⟨b,1,none⟩=some (.slice (some ⟨g,0,none⟩) 0 cap):=by
  have:w.drew.heap[b]? =some (.cells #[p,.slice (some ⟨g,0,none⟩) 0 cap] T (0,0)):=hbk;rw[Lib.cell_of_heap this];rfl
 have mixed:U.follows .mixedOrders=true:=by kernel_rfl
 have hSD:(Builtin.unsafeSliceData_ #[52] 144 #[.slice (some ⟨g,0,none⟩) 0 cap]).run U w.drew=.ok (.pointer (some ⟨g,0,none⟩)) w.drew:=
  Lib.run_unsafeSliceData_row _ _ _ _ _ _ hc0
 clear hc0;go_enter Tryz.func65,Tryz.ntmps65
 go_wp2
 go_region_o
 all_goals(go_wp2;go_ret;exact⟨rfl,rfl,rfl,rfl,Nat.le_refl _,fun _ _ _=>rfl,fun c cur e fz h h2=>⟨fz,h2⟩⟩)
set_option maxHeartbeats 2000000 in
theorem ai6(b g cap:Nat)(p:Value)(T:TypeId)(cur:Array Value)(fz:Nat×Nat)(xs:List Int)(w:World)(h0:xs≠[])(hbk:w.heap[b]? =some (.cells #[p,.slice (some ⟨g,0,none⟩) xs.length cap] T (0,0)))
  (hg:w.heap[g]? =some (.cells cur 5 fz)) (hnc:xs.length<=cap) (hcm:cap<=maxLen) (hcs:cur.size=cap) (htk:cur.toList.take xs.length=xs.map (Value.int .u8)):
  Calls U 65 #[.pointer (some ⟨b,0,none⟩)] w (pT w (.slice (some ⟨g,0,none⟩) xs.length cap) xs):=by
 have hl0:xs.length≠0:=by simpa using h0
 have c1:w.drew.cell? ⟨b,1,none⟩=some (.slice (some ⟨g,0,none⟩) xs.length cap):=by
  have:w.drew.heap[b]? =some (.cells #[p,.slice (some ⟨g,0,none⟩) xs.length cap] T (0,0)):=hbk;rw[Lib.cell_of_heap this];rfl
 have mixed:U.follows .mixedOrders=true:=by kernel_rfl
 have t144:U.underlying 144=some (.pointer 5):=by kernel_rfl
 have hg':w.drew.heap[g]? =some (.cells cur 5 fz):=hg;have hSD:(Builtin.unsafeSliceData_ #[52] 144 #[.slice (some ⟨g,0,none⟩) xs.length cap]).run U w.drew=.ok (.pointer (some ⟨g,0,none⟩)) w.drew:=
  Lib.run_unsafeSliceData_row _ _ _ _ _ _ (by omega)
 have hUS:(Builtin.unsafeString_ #[144,3] 9 #[.pointer (some ⟨g,0,none⟩),.int .i64 xs.length]).run U w.drew=.ok (.string ⟨(strOf xs).toArray⟩) (w.drew.freeze ⟨g,0,none⟩ xs.length):=by
  refine YM w.drew 144 3 9 5 t144 (by kernel_rfl) g cur.size (by simp[World.shape?,hg']) xs h0 (by omega) (by unfold maxLen at hcm;omega) ?_
  intro j x hx;rw[gG,Nat.zero_add,cell_of_row w.drew g j cur 5 fz hg'];have hj:j<xs.length:=(List.getElem?_eq_some_iff.1 hx).1;have:=congrArg (fun l=>l[j]?) htk
  simp only[List.getElem?_take,List.getElem?_map,hx,Option.map_some,hj,if_true] at this;simpa using this
 have fin:pT w (.slice (some ⟨g,0,none⟩) xs.length cap) xs (.returned (.string ⟨(strOf xs).toArray⟩)) (w.drew.freeze ⟨g,0,none⟩ xs.length):=by
  obtain⟨f1,f2,f3,f4,f5,f6⟩:=_E w.drew ⟨g,0,none⟩ xs.length;refine⟨rfl,f1,f2,f3,Nat.le_of_eq f4.symm,fun c _ hc=>f5 c fun e=>hc (by rw[e];rfl),fun c cur' e fz' h h2=>?_⟩
  cases h;exact f6 cur' e fz' h2
 clear htk hg' hg hcs hcm hnc hl0 h0;go_enter Tryz.func65,Tryz.ntmps65
 go_wp2
 go_region_o
 all_goals(go_wp2;go_ret;exact fin)
theorem alr:AO U 65:=by
 intro b p v T xs w hb hrow;refine .inl ⟨enters_of Tryz.func65 (by kernel_rfl) rfl _ _,?_⟩
 have key:Calls U 65 #[.pointer (some ⟨b,0,none⟩)] w (pT w v xs):=by
  rcases hrow.2 with⟨rfl,h0⟩|⟨g,cap,cur,fz,rfl,hu,hg,hnc,hcm,hcs,htk⟩
  ·have:xs=[]:=List.eq_nil_of_length_eq_zero h0;subst this;exact ai7 b p T w hb
  ·by_cases h0:xs=[]
   ·subst h0;by_cases hc:cap=0
    ·subst hc;exact aer b g p T cur w hb fz hg
    ·exact ahN b g cap p T w hc hb
   ·exact ai6 b g cap p T cur fz xs w h0 hb hg hnc hcm (by simpa using hcs) (by simpa using htk)
 refine key.mono fun e w' h=>?_
 obtain⟨rfl,h⟩:=h;exact⟨rfl,h⟩
theorem apM:Bf 0 .u32 ii:=ad4 (by simp[kv]) fun w h=>h.1
theorem asq:RH U aj:=⟨aeK (Ou (by kernel_rfl)),by kernel_rfl,fun p h=>by
 simp only[aj,List.mem_cons,List.not_mem_nil,or_false] at h;subst h;exact akc,fun g h=>by
 simp only[aj,List.mem_cons,List.not_mem_nil,or_false] at h;subst h;exact akG,fun g h=>by
 simp only[aj,List.mem_cons,List.not_mem_nil,or_false] at h;subst h;exact ai5,fun g h=>by
 simp only[aj,List.mem_cons,List.not_mem_nil,or_false] at h;subst h;exact alr,fun p h=>by
 simp only[aj,List.mem_cons,List.not_mem_nil,or_false] at h;subst h;exact apM⟩
theorem bf{L:bh}(h:Bm U L):a7 U (bg aj L):=agd asq h
theorem g0:a7 U (bg aj []):=bf ⟨⟩
abbrev O4:Shape:=⟨[ao 0,ae 1],[],53⟩
abbrev OL:List aO:=[(.norm,⟨[ao 0,ae 1,au 24],[],53⟩)]
noncomputable def zi(y:O4.J):Option (ay OL):=
 bif(!(y.1.1==([]:F))) then
 bif(!(decide ((y.1.1.length:Int)>(9:Int)))) then
 bif(decide ((y.1.1.length:Int)>(1:Int))) then
(aU y.1.1 (0:Int)).bind fun a=>
 some ((y.1.1,y.1.2.1,((a.toNat:Int)==(48:Int)),()),())
else
 some ((y.1.1,y.1.2.1,false,()),())
else
 some ((y.1.1,y.1.2.1,true,()),())
else
 some ((y.1.1,y.1.2.1,true,()),())
theorem afF:aW U (an (codeOf Tryz.f115) 1 12) (a_ O4 OL zi):=cS g0 (by kernel_rfl) ag fun y=>by kernel_rfl
abbrev LZ:Shape:=⟨[ao 0,ae 1,ae 6,ae 7,ae 26,ae 27],[],53⟩
abbrev LR:List aO:=[(.norm,⟨[ao 0,ae 1,ae 6,ae 7,ae 26,ae 27,au 39],[],53⟩)]
noncomputable def xe(y:LZ.J):Option (ay LR):=
(aU y.1.1 y.1.2.2.2.1).bind fun a=>
 bif(!(decide ((a.toNat:Int)<(48:Int)))) then
(aU y.1.1 y.1.2.2.2.1).bind fun b=>
 some ((y.1.1,y.1.2.1,y.1.2.2.1,y.1.2.2.2.1,y.1.2.2.2.2.1,y.1.2.2.2.2.2.1,(decide ((b.toNat:Int)>(57:Int))),()),())
else
 some ((y.1.1,y.1.2.1,y.1.2.2.1,y.1.2.2.2.1,y.1.2.2.2.2.1,y.1.2.2.2.2.2.1,true,()),())
theorem aag:aW U (an (c8 (an (codeOf Tryz.f115) 1 122)) 244 31332) (a_ LZ LR xe):=cS g0 (by kernel_rfl) ag fun y=>by kernel_rfl
abbrev x4:Shape:=⟨[ao 0,ae 1,ae 6,ae 26,ae 27],[],53⟩
abbrev D0:List aO:=[(.ret,⟨[ae 4,au 5],[],53⟩),(.exit 0,⟨[ae 1,ae 6],[],53⟩)]
noncomputable def pF(y:x4.J):bQ x4 D0:=
 bif(decide (y.1.2.2.2.2.1<y.1.2.2.2.1)) then
(xe ((y.1.1,y.1.2.1,y.1.2.2.1,y.1.2.2.2.2.1,y.1.2.2.2.1,y.1.2.2.2.2.1,()),())).bind fun a=>
 bif a.1.2.2.2.2.2.2.1 then
 some (.inr (.inl (((0:Int),false,()),())))
else
(aU a.1.1 a.1.2.2.2.1).bind fun b=>
 some (.inl ((a.1.1,a.1.2.1,(IntKind.i64.wrap ((IntKind.i64.wrap (a.1.2.2.1*(10:Int)))+(IntKind.i64.wrap (IntKind.u8.wrap ((b.toNat:Int)-(48:Int)))))),a.1.2.2.2.2.1,(IntKind.i64.wrap (a.1.2.2.2.2.2.1+(1:Int))),()),()))
else
 some (.inr (.inr ((y.1.2.1,y.1.2.2.1,()),())))
noncomputable def rB:x4.J->Option (ay D0):=bx pF
theorem adG:aW U (an (codeOf Tryz.f115) 1 122) (a_ x4 D0 rB):=bR g0 (by kernel_rfl) (a' aag ag) fun y=>by kernel_rfl
abbrev i115:Shape:=⟨[ao 0,ae 1],[],53⟩
abbrev Tt:Shape:=⟨[ae 4,au 5],[],53⟩
noncomputable def f115(a:i115.J):Option Tt.J:=
(zi ((a.1.1,a.1.2.1,()),())).bind fun b=>
 bif b.1.2.2.1 then
 some (((0:Int),false,()),())
else
(rB ((b.1.1,b.1.2.1,(0:Int),(b.1.1.length:Int),(0:Int),()),())).bind fun c=>
(match c with
|.inl d=>
 some ((d.1.1,d.1.2.1,()),())
|.inr e=>
 bif(decide (e.1.2.1>e.1.1)) then
 some (((0:Int),false,()),())
else
 some ((e.1.2.1,true,()),()))
noncomputable def Bc:aH:=aP aj Tryz.f115 i115 Tt [] f115
theorem Hi:aF U 115 Bc:=aS g0 Tryz.func115 (by kernel_rfl) (a' afF (a' adG ag)) (fun y=>by kernel_rfl) fun a=>by kernel_rfl
abbrev NN:Shape:=⟨[ao 0,ae 3,ae 4],[],47⟩
abbrev Nz:List aO:=[(.norm,⟨[ao 0,ae 3,ae 4,au 24],[],47⟩)]
noncomputable def Ev(y:NN.J):Option (ay Nz):=
(aU y.1.1 y.1.2.2.1).bind fun a=>
 bif(!(decide ((a.toNat:Int)<(48:Int)))) then
(aU y.1.1 y.1.2.2.1).bind fun b=>
 bif(!(decide ((b.toNat:Int)>(57:Int)))) then
 some ((y.1.1,y.1.2.1,y.1.2.2.1,(decide (y.1.2.2.1>=(6:Int))),()),())
else
 some ((y.1.1,y.1.2.1,y.1.2.2.1,true,()),())
else
 some ((y.1.1,y.1.2.1,y.1.2.2.1,true,()),())
theorem adi:aW U (an (c8 (an (codeOf Tryz.f74) 1 58)) 116 3728) (a_ NN Nz Ev):=cS g0 (by kernel_rfl) ag fun y=>by kernel_rfl
abbrev zJ:Shape:=⟨[ao 0,ae 3,ae 4],[],47⟩
abbrev Gm:List aO:=[(.ret,⟨[ae 2],[],47⟩),(.exit 0,⟨[ao 0,ae 3],[],47⟩)]
noncomputable def Ab(y:zJ.J):bQ zJ Gm:=
 bif(decide (y.1.2.2.1<(y.1.1.length:Int))) then
(Ev ((y.1.1,y.1.2.1,y.1.2.2.1,()),())).bind fun a=>
 bif a.1.2.2.2.1 then
 some (.inr (.inl ((((-1):Int),()),())))
else
(aU a.1.1 a.1.2.2.1).bind fun b=>
 some (.inl ((a.1.1,(IntKind.i64.wrap ((IntKind.i64.wrap (a.1.2.1*(10:Int)))+(IntKind.i64.wrap (IntKind.u8.wrap ((b.toNat:Int)-(48:Int)))))),(IntKind.i64.wrap (a.1.2.2.1+(1:Int))),()),()))
else
 some (.inr (.inr ((y.1.1,y.1.2.1,()),())))
noncomputable def GK:zJ.J->Option (ay Gm):=bx Ab
theorem ag7:aW U (an (codeOf Tryz.f74) 1 58) (a_ zJ Gm GK):=bR g0 (by kernel_rfl) (a' adi ag) fun y=>by kernel_rfl
abbrev P1:Shape:=⟨[ao 0,ae 3],[],47⟩
abbrev PS:List aO:=[(.norm,⟨[ae 3,au 45],[],47⟩)]
noncomputable def GU(y:P1.J):Option (ay PS):=
 bif(!((y.1.1.length:Int)==(0:Int))) then
 bif(decide ((y.1.1.length:Int)>(1:Int))) then
(aU y.1.1 (0:Int)).bind fun a=>
 some ((y.1.2.1,((a.toNat:Int)==(48:Int)),()),())
else
 some ((y.1.2.1,false,()),())
else
 some ((y.1.2.1,true,()),())
theorem ag6:aW U (an (codeOf Tryz.f74) 1 60) (a_ P1 PS GU):=cS g0 (by kernel_rfl) ag fun y=>by kernel_rfl
abbrev i74:Shape:=⟨[ao 0],[],47⟩
abbrev We:Shape:=⟨[ae 2],[],47⟩
noncomputable def f74(a:i74.J):Option We.J:=
(GK ((a.1.1,(0:Int),(0:Int),()),())).bind fun b=>
(match b with
|.inl c=>
 some ((c.1.1,()),())
|.inr d=>
(GU ((d.1.1,d.1.2.1,()),())).bind fun e=>
 bif e.1.2.1 then
 some ((((-1):Int),()),())
else
 some ((e.1.1,()),()))
noncomputable def B3:aH:=aP aj Tryz.f74 i74 We [] f74
theorem IB:aF U 74 B3:=aS g0 Tryz.func74 (by kernel_rfl) (a' ag7 (a' ag6 ag)) (fun y=>by kernel_rfl) fun a=>by kernel_rfl
abbrev i75:Shape:=⟨[ae 0,ae 1,ae 2],[],15⟩
abbrev Wd:Shape:=⟨[au 6],[],15⟩
noncomputable def f75(a:i75.J):Option Wd.J:=
 bif(decide (a.1.1>=a.1.2.1)) then
 some (((decide (a.1.1<=a.1.2.2.1)),()),())
else
 some ((false,()),())
noncomputable def nZ:aH:=aP aj Tryz.f75 i75 Wd [] f75
theorem z75:aF U 75 nZ:=aS g0 Tryz.func75 (by kernel_rfl) ag (fun y=>by kernel_rfl) fun a=>by kernel_rfl
noncomputable abbrev aqw:bh:=[(75,nZ)]
theorem B9:a7 U (bg aj aqw):=bf ⟨z75,⟨⟩⟩
abbrev OR:Shape:=⟨[ao 0,ae 3],[],42⟩
abbrev Oy:List aO:=[(.norm,⟨[ao 0,ae 3,au 4],[],42⟩)]
noncomputable def FX(y:OR.J):Option (ay Oy):=
(aU y.1.1 y.1.2.1).bind fun a=>
 bif(decide ((a.toNat:Int)>=(97:Int))) then
(aU y.1.1 y.1.2.1).bind fun b=>
 some ((y.1.1,y.1.2.1,(decide ((b.toNat:Int)<=(122:Int))),()),())
else
 some ((y.1.1,y.1.2.1,false,()),())
theorem aeS:aW U (an (c8 (an (codeOf Tryz.f87) 1 26)) 52 840) (a_ OR Oy FX):=cS B9 (by kernel_rfl) ag fun y=>by kernel_rfl
abbrev NM:Shape:=⟨[ao 0,ae 3,au 4],[],42⟩
abbrev Ny:List aO:=[(.norm,⟨[ao 0,ae 3,au 38],[],42⟩)]
noncomputable def Eu(y:NM.J):Option (ay Ny):=
 bif(!y.1.2.2.1) then
 bif(!(y.1.2.1==(0:Int))) then
(aU y.1.1 y.1.2.1).bind fun a=>
 bif(!(decide ((a.toNat:Int)<(48:Int)))) then
(aU y.1.1 y.1.2.1).bind fun b=>
 some ((y.1.1,y.1.2.1,(decide ((b.toNat:Int)>(57:Int))),()),())
else
 some ((y.1.1,y.1.2.1,true,()),())
else
 some ((y.1.1,y.1.2.1,true,()),())
else
 some ((y.1.1,y.1.2.1,false,()),())
theorem adh:aW U (an (c8 (an (codeOf Tryz.f87) 1 26)) 52 1682) (a_ NM Ny Eu):=cS B9 (by kernel_rfl) ag fun y=>by kernel_rfl
abbrev zI:Shape:=⟨[ao 0,ae 3],[],42⟩
abbrev Gl:List aO:=[(.ret,⟨[au 2],[],42⟩),(.exit 0,⟨[ao 0],[],42⟩)]
noncomputable def Aa(y:zI.J):bQ zI Gl:=
 bif(decide (y.1.2.1<(y.1.1.length:Int))) then
(FX ((y.1.1,y.1.2.1,()),())).bind fun a=>
(Eu ((a.1.1,a.1.2.1,a.1.2.2.1,()),())).bind fun b=>
 bif b.1.2.2.1 then
 some (.inr (.inl ((false,()),())))
else
 some (.inl ((b.1.1,(IntKind.i64.wrap (b.1.2.1+(1:Int))),()),()))
else
 some (.inr (.inr ((y.1.1,()),())))
noncomputable def GJ:zI.J->Option (ay Gl):=bx Aa
theorem ag4:aW U (an (codeOf Tryz.f87) 1 26) (a_ zI Gl GJ):=bR B9 (by kernel_rfl) (a' aeS (a' adh ag)) fun y=>by kernel_rfl
abbrev i87:Shape:=⟨[ao 0],[],42⟩
abbrev V_:Shape:=⟨[au 2],[],42⟩
noncomputable def f87(a:i87.J):Option V_.J:=
(GJ ((a.1.1,(0:Int),()),())).bind fun b=>
(match b with
|.inl c=>
 some ((c.1.1,()),())
|.inr d=>
(f75 (((d.1.1.length:Int),(1:Int),(10:Int),()),())).bind fun e=>
 some ((e.1.1,()),()))
noncomputable def JV:aH:=aP aj Tryz.f87 i87 V_ [] f87
theorem z87:aF U 87 JV:=aS B9 Tryz.func87 (by kernel_rfl) (a' ag4 ag) (fun y=>by kernel_rfl) fun a=>by kernel_rfl
abbrev PZ:Shape:=⟨[ao 0],[],49⟩
abbrev PQ:List aO:=[(.norm,⟨[ao 0,au 20],[],49⟩)]
noncomputable def GS(y:PZ.J):Option (ay PQ):=
 bif(!(y.1.1==([]:F))) then
 bif(!(decide ((y.1.1.length:Int)>(10:Int)))) then
(aU y.1.1 (0:Int)).bind fun a=>
 bif(!(decide ((a.toNat:Int)<(97:Int)))) then
(aU y.1.1 (0:Int)).bind fun b=>
 some ((y.1.1,(decide ((b.toNat:Int)>(122:Int))),()),())
else
 some ((y.1.1,true,()),())
else
 some ((y.1.1,true,()),())
else
 some ((y.1.1,true,()),())
theorem agY:aW U (an (codeOf Tryz.f99) 1 12) (a_ PZ PQ GS):=cS g0 (by kernel_rfl) ag fun y=>by kernel_rfl
abbrev NL:Shape:=⟨[ao 0,ae 3,ae 22,ae 23],[],49⟩
abbrev Nx:List aO:=[(.norm,⟨[ao 0,ae 22,ae 23,au 47],[],49⟩)]
noncomputable def Et(y:NL.J):Option (ay Nx):=
(aU y.1.1 y.1.2.1).bind fun a=>
 bif(!(decide ((a.toNat:Int)<(97:Int)))) then
(aU y.1.1 y.1.2.1).bind fun b=>
 bif(decide ((b.toNat:Int)>(122:Int))) then
(aU y.1.1 y.1.2.1).bind fun c=>
 bif(!(decide ((c.toNat:Int)<(48:Int)))) then
(aU y.1.1 y.1.2.1).bind fun d=>
 some ((y.1.1,y.1.2.2.1,y.1.2.2.2.1,(decide ((d.toNat:Int)>(57:Int))),()),())
else
 some ((y.1.1,y.1.2.2.1,y.1.2.2.2.1,true,()),())
else
 some ((y.1.1,y.1.2.2.1,y.1.2.2.2.1,false,()),())
else
(aU y.1.1 y.1.2.1).bind fun e=>
 bif(!(decide ((e.toNat:Int)<(48:Int)))) then
(aU y.1.1 y.1.2.1).bind fun f=>
 some ((y.1.1,y.1.2.2.1,y.1.2.2.2.1,(decide ((f.toNat:Int)>(57:Int))),()),())
else
 some ((y.1.1,y.1.2.2.1,y.1.2.2.2.1,true,()),())
theorem adg:aW U (an (c8 (an (codeOf Tryz.f99) 1 58)) 116 7474) (a_ NL Nx Et):=cS g0 (by kernel_rfl) ag fun y=>by kernel_rfl
abbrev zC:Shape:=⟨[ao 0,ae 22,ae 23],[],49⟩
abbrev Gg:List aO:=[(.ret,⟨[au 2],[],49⟩),(.exit 0,⟨[],[],49⟩)]
noncomputable def z1(y:zC.J):bQ zC Gg:=
 bif(decide (y.1.2.2.1<y.1.2.1)) then
(Et ((y.1.1,y.1.2.2.1,y.1.2.1,y.1.2.2.1,()),())).bind fun a=>
 bif a.1.2.2.2.1 then
 some (.inr (.inl ((false,()),())))
else
 some (.inl ((a.1.1,a.1.2.1,(IntKind.i64.wrap (a.1.2.2.1+(1:Int))),()),()))
else
 some (.inr (.inr ((),())))
noncomputable def GC:zC.J->Option (ay Gg):=bx z1
theorem agX:aW U (an (codeOf Tryz.f99) 1 58) (a_ zC Gg GC):=bR g0 (by kernel_rfl) (a' adg ag) fun y=>by kernel_rfl
abbrev i99:Shape:=⟨[ao 0],[],49⟩
abbrev V4:Shape:=⟨[au 2],[],49⟩
noncomputable def f99(a:i99.J):Option V4.J:=
(GS ((a.1.1,()),())).bind fun b=>
 bif b.1.2.1 then
 some ((false,()),())
else
(GC ((b.1.1,(b.1.1.length:Int),(0:Int),()),())).bind fun c=>
(match c with
|.inl d=>
 some ((d.1.1,()),())
|.inr e=>
 some ((true,()),()))
noncomputable def JT:aH:=aP aj Tryz.f99 i99 V4 [] f99
theorem VR:aF U 99 JT:=aS g0 Tryz.func99 (by kernel_rfl) (a' agY (a' agX ag)) (fun y=>by kernel_rfl) fun a=>by kernel_rfl
def iA(b:UInt8):Bool:=decide ((97:Int)<=(b.toNat:Int))&&decide ((b.toNat:Int)<=122)
def cI(b:UInt8):Bool:=decide ((48:Int)<=(b.toNat:Int))&&decide ((b.toNat:Int)<=57)
def within(n cO hi:Int):Bool:=decide (cO<=n)&&decide (n<=hi)
theorem nm(a):f75 a=some ((within a.1.1 a.1.2.1 a.1.2.2.1,()),()):=by
 simp only[f75,within,ge_iff_le];cases decide (a.1.2.1<=a.1.1)<;>rfl
def is(s:F):Bool:=allI (fun i x=>iA x||(!(i==0)&&cI x)) 0 s&&within s.length 1 10
theorem Np(a)(hs:aq a.1.1.length):f87 a=some ((is a.1.1,()),()):=by
 obtain⟨⟨s,u⟩,cn⟩:=a;have key:GJ ((s,((0:Int),())),())=some (bif allI (fun i x=>iA x||(!(i==0)&&cI x)) 0 s then .inr ((s,()),()) else .inl ((false,()),())):=by
  refine gY Aa s (fun i=>((s,((i:Int),())),())) _ _ _ (fun i x hx=>?_) ?_
  ·have hi:=dd hx;have hw:aq i:=by unfold aq at*;simp only at hs;omega
   simp only[Aa,cp hi,cond_true,FX,Eu,b6,hx,Option.bind_some,b0 hw,ge_iff_le,T6];unfold iA cI;by_cases h1:(97:Int)<=(x.toNat:Int)<;>by_cases h2:(x.toNat:Int)<=122<;>cases h3:(i==0)<;>by_cases ax:(48:Int)<=(x.toNat:Int)<;>by_cases bk:(x.toNat:Int)<=57<;>simp[h1,h2,h3,ax,bk,b0 hw,b6,hx,T6,nV,mN,-beq_iff_eq]
  ·simp only[Aa,dM,cond_false]
 simp only[f87,key,Option.bind_some];unfold is;cases allI (fun i x=>iA x||(!(i==0)&&cI x)) 0 s with
 |false=>rfl
 |true=>simp only[cond_true,nm,Option.bind_some,Bool.true_and]
theorem Lx(b:UInt8)(r:F):is (b::r)=(iA b&&(b::r).all (fun x=>iA x||cI x)&&decide (((b::r).length:Int)<=10)):=by
 unfold is;simp only[allI,List.all_cons];have:allI (fun i x=>iA x||(!(i==0)&&cI x)) (0+1) r=r.all (fun x=>iA x||cI x):=by
  have hz:∀(i:Nat) (x:UInt8),1<=i->x∈r->(iA x||(!(i==0)&&cI x))=(iA x||cI x):=by
   intro i x hi _;have:(i==0)=false:=by simp;omega
   rw[this];simp
  rw[Me (lW:=fun _ x=>iA x||cI x) r 1 hz,gC]
 rw[this];unfold within;have:decide ((1:Int)<=((b::r).length:Int))=true:=by simp only[List.length_cons,decide_eq_true_eq];omega
 rw[this];cases iA b<;>simp
theorem K4(a)(hs:aq a.1.1.length):f99 a=some ((is a.1.1,()),()):=by
 obtain⟨⟨s,u⟩,cn⟩:=a;have key:GC ((s,((s.length:Int),((0:Int),()))),())=some (bif allI (fun _ x=>iA x||cI x) 0 s then .inr ((),()) else .inl ((false,()),())):=by
  refine gY z1 s (fun i=>((s,((s.length:Int),((i:Int),()))),())) _ _ _ (fun i x hx=>?_) ?_
  ·have hi:=dd hx;have hw:aq i:=by unfold aq at*;simp only at hs;omega
   simp only[z1,cp hi,cond_true,Et,b6,hx,Option.bind_some,b0 hw,nV,mN];unfold iA cI;by_cases h1:(97:Int)<=(x.toNat:Int)<;>by_cases h2:(x.toNat:Int)<=122<;>by_cases ax:(48:Int)<=(x.toNat:Int)<;>by_cases bk:(x.toNat:Int)<=57<;>simp[h1,h2,ax,bk,b0 hw,b6,hx,nV,mN]
  ·simp only[z1,dM,cond_false]
 rw[gC] at key;cases s with
 |nil=>rfl
 |cons b r=>
  have hb:aU (b::r) 0=some b:=rfl;simp only[f99,GS,hb,Option.bind_some,nV,mN,Lx];have he:((b::r)==([]:F))=false:=rfl;have hl:iA b=(decide ((97:Int)<=(b.toNat:Int))&&decide ((b.toNat:Int)<=122)):=rfl;rw[he,hl];by_cases h1:(97:Int)<=(b.toNat:Int)<;>by_cases h2:(b.toNat:Int)<=122<;>by_cases h3:((b::r).length:Int)<=10<;>
   simp only[h1,h2,h3,decide_true,decide_false,Bool.not_true,Bool.not_false,cond_true,cond_false,Option.bind_some,Bool.true_and,Bool.and_true,Bool.false_and,Bool.and_false]
  rw[key];generalize List.all (b::r) (fun x=>iA x||cI x)=q
  cases q<;>rfl
def dS(n:Int)(b:UInt8):Int:=n*10+((b.toNat:Int)-48)
def c4(s:F):Int:=s.foldl dS 0
def hS:F->Bool
 |b::_::_=>(b.toNat:Int)==48
 |_=>false
def fj(s:F):Bool:=s.all cI&&!(s==[])&&!hS s&&decide (s.length<=6)&&decide (c4 s<=999)
theorem ir{b:UInt8}(h:cI b=true):48<=(b.toNat:Int)/\(b.toNat:Int)<=57:=by
 simpa[cI] using h
theorem agF{b:UInt8}(h:cI b=true):IntKind.u8.wrap ((b.toNat:Int)-48)=(b.toNat:Int)-48:=by
 have:=ir h;rw[IntKind.wrap_u8];omega
theorem CE{n:Int}{b:UInt8}{i:Nat}(h:cI b=true)(h0:0<=n)(h1:n<10^i):0<=dS n b/\dS n b<10^(i+1):=by
 have:=ir h;unfold dS;rw[Int.pow_succ];omega
theorem afJ{i:Nat}(h:i<=9):(10:Int)^i<=1000000000:=by
 have:i=0\/i=1\/i=2\/i=3\/i=4\/i=5\/i=6\/i=7\/i=8\/i=9:=by omega
 rcases this with rfl|rfl|rfl|rfl|rfl|rfl|rfl|rfl|rfl|rfl<;>decide
theorem Db{n:Int}{b:UInt8}{i:Nat}(h:cI b=true)(hi:i<=8)(h0:0<=n)(h1:n<10^i):
  IntKind.i64.wrap (IntKind.i64.wrap (n*10)+IntKind.i64.wrap (IntKind.u8.wrap ((b.toNat:Int)-48)))=dS n b:=by
 have Z:=ir h;have hp:=afJ (show i<=9 by omega)
 rw[agF h,ed (n:=n*10) (by omega) (by omega),ed (n:=(b.toNat:Int)-48) (by omega) (by omega),ed (by omega) (by omega)]
 rfl
theorem EL(a)(hs:aq a.1.1.length):f74 a=some ((bif a.1.1.all cI&&decide (a.1.1.length<=6)&&!(a.1.1==[])&&!hS a.1.1 then c4 a.1.1 else-1,()),()):=by
 obtain⟨⟨s,u⟩,cn⟩:=a;have key:GK ((s,((0:Int),((0:Int),()))),())=some (bif allI (fun i x=>cI x&&decide (i<6)) 0 s then .inr ((s,(c4 s,())),()) else .inl ((((-1):Int),()),())):=by
  have:=ly Ab s (fun i n=>((s,(n,((i:Int),()))),())) (fun i x n=>some (bif cI x&&decide (i<6) then .inl (dS n x) else .inr (.inl ((((-1):Int),()),())))) (fun n=>.inr ((s,(n,())),()))
   (fun i n=>0<=n/\n<10^i/\(i<=6)) (0:Int) ⟨by decide,by decide,by decide⟩ (fun i x n hx dl=>?_) (fun n _=>?_)
  ·exact this.trans (by rw[w1];rfl)
  ·have hi:=dd hx;have hw:aq i:=by unfold aq at*;simp only at hs;omega
   obtain⟨h0,h1,cl⟩:=dl;refine⟨?_,fun aG af=>?_⟩
   ·simp only[Ab,cp hi,cond_true,Ev,b6,hx,Option.bind_some,b0 hw,nV,mN,JK];have akQ:decide ((6:Int)<=(i:Int))=!decide (i<6):=by by_cases h:i<6<;>simp[h]<;>omega
    rw[akQ];cases Z:cI x with
    |false=>
     unfold cI at Z;by_cases ax:(48:Int)<=(x.toNat:Int)<;>by_cases bk:(x.toNat:Int)<=57<;>simp[ax,bk] at Z ⊢
    |true=>
     obtain⟨ax,bk⟩:=ir Z;cases ar:decide (i<6) with
     |false=>simp[ax,bk]
     |true=>
      have ar:i<6:=by simpa using ar
      have:=Db (i:=i) Z (by omega) h0 h1
      simp only[ax,bk,decide_true,Bool.not_true,Bool.not_false,cond_true,cond_false,Option.bind_some,b6,hx,this,b0 hw,Bool.and_true,Option.map_some]
   ·simp only[Option.some.injEq] at af;cases ar:(cI x&&decide (i<6)) with
    |false=>rw[ar] at af;cases af
    |true=>
     rw[ar] at af;simp only[cond_true,Sum.inl.injEq] at af;simp only[Bool.and_eq_true,decide_eq_true_eq] at ar;subst af;have:=CE ar.1 h0 h1;exact⟨this.1,this.2,by omega⟩
  ·simp only[Ab,dM,cond_false]
 rw[EG,gC,ags] at key;simp only[f74,key,Option.bind_some];cases s with
 |nil=>rfl
 |cons b r=>
  have hb:aU (b::r) 0=some b:=rfl;have he:((b::r)==([]:F))=false:=rfl;have hz:(((b::r).length:Int)==0)=false:=by simp only[List.length_cons,beq_eq_false_iff_ne,ne_eq];omega
  have hl:decide (((b::r).length:Int)>1)=!(r==[]):=by cases r<;>simp;omega
  simp only[List.isEmpty_cons,Bool.false_or,Nat.zero_add,he,Bool.not_false,Bool.and_true];cases ar:(List.all (b::r) cI&&decide ((b::r).length<=6)) with
  |false=>rfl
  |true=>
   simp only[cond_true,GU,hz,Bool.not_false,hl,hb,Option.bind_some,Bool.true_and];cases r with
   |nil=>rfl
   |cons c r=>
    have:((c::r)==([]:F))=false:=rfl;rw[this];simp only[Bool.not_false,cond_true,Option.bind_some,hS];cases ((b.toNat:Int)==48)<;>rfl
theorem aaS:∀(r:F) (n:Int) (k:Nat),r.all cI=true->0<=n->10^k<=n->10^(k+r.length)<=r.foldl dS n:=by
 intro r;induction r with
 |nil=>intro n k _ _ h;exact h
 |cons b r ih=>
  intro n k Z h0 h;simp only[List.all_cons,Bool.and_eq_true] at Z;have hb:=ir Z.1;have hs:10^(k+1)<=dS n b:=by unfold dS;rw[Int.pow_succ];omega
  have:=ih (dS n b) (k+1) Z.2 (by unfold dS;omega) hs
  simp only[List.length_cons,List.foldl_cons];rw[show k+(r.length+1)=k+1+r.length by omega]
  exact this
theorem adK{n:Nat}(h:6<=n):(1000000:Int)<=10^n:=by
 induction n with
 |zero=>omega
 |succ n ih=>
  by_cases cl:6<=n
  ·have:=ih cl;rw[Int.pow_succ];omega
  ·have:n=5:=by omega
   subst this;decide
theorem aeE{s:F}(Z:s.all cI=true)(hl:hS s=false)(iq:7<=s.length):999<c4 s:=by
 match s,iq with
 |b::c::r,iq=>
  simp only[hS,beq_eq_false_iff_ne,ne_eq] at hl;simp only[List.all_cons,Bool.and_eq_true] at Z;have hb:=ir Z.1;have hc:=ir Z.2.1;have hs:(10:Int)^0<=dS 0 b:=by unfold dS;simp;omega
  have:=aaS (c::r) (dS 0 b) 0 (by simp[Z.2.1,Z.2.2]) (by unfold dS;omega) hs
  have h2:(1000000:Int)<=10^(0+(c::r).length):=adK (by simp only[List.length_cons] at iq ⊢;omega)
  show 999<List.foldl dS (dS 0 b) (c::r);omega
theorem acG(a)(hs:aq a.1.1.length)(hK:a.1.2.1=999):f115 a=some ((bif fj a.1.1 then c4 a.1.1 else 0,(fj a.1.1,())),()):=by
 obtain⟨⟨s,m,u⟩,cn⟩:=a;obtain rfl:m=999:=hK;have key:s.length<=9->rB ((s,((999:Int),((0:Int),((s.length:Int),((0:Int),()))))),())=some (bif allI (fun i x=>cI x) 0 s then .inr (((999:Int),(c4 s,())),()) else .inl (((0:Int),(false,())),())):=by
  intro hK;have:=ly pF s (fun i n=>((s,((999:Int),(n,((s.length:Int),((i:Int),()))))),())) (fun i x n=>some (bif cI x then .inl (dS n x) else .inr (.inl (((0:Int),(false,())),())))) (fun n=>.inr (((999:Int),(n,())),()))
   (fun i n=>0<=n/\n<10^i/\(i<=9)) (0:Int) ⟨by decide,by decide,by decide⟩ (fun i x n hx dl=>?_) (fun n _=>?_)
  ·exact this.trans (by rw[w1];rfl)
  ·have hi:=dd hx;have hw:aq i:=by unfold aq at*;simp only at hs;omega
   obtain⟨h0,h1,cl⟩:=dl;refine⟨?_,fun aG af=>?_⟩
   ·simp only[pF,cp hi,cond_true,xe,b6,hx,Option.bind_some,b0 hw,nV,mN,JK];cases Z:cI x with
    |false=>
     unfold cI at Z;by_cases ax:(48:Int)<=(x.toNat:Int)<;>by_cases bk:(x.toNat:Int)<=57<;>simp[ax,bk] at Z ⊢
    |true=>
     obtain⟨ax,bk⟩:=ir Z;have:=Db (i:=i) Z (by omega) h0 h1
     simp only[ax,bk,decide_true,Bool.not_true,Bool.not_false,cond_true,cond_false,Option.bind_some,b6,hx,this,b0 hw,Bool.and_true,Option.map_some]
   ·simp only[Option.some.injEq] at af;cases ar:cI x with
    |false=>rw[ar] at af;cases af
    |true=>
     rw[ar] at af;simp only[cond_true,Sum.inl.injEq] at af;subst af;have:=CE ar h0 h1;exact⟨this.1,this.2,by omega⟩
  ·simp only[pF,dM,cond_false]
 rw[gC] at key;cases s with
 |nil=>rfl
 |cons b r=>
  have hb:aU (b::r) 0=some b:=rfl;have he:((b::r)==([]:F))=false:=rfl;have hl:decide (((b::r).length:Int)>1)=!(r==[]):=by cases r<;>simp;omega
  have hK:decide (((b::r).length:Int)>9)=!decide ((b::r).length<=9):=by by_cases h:(b::r).length<=9<;>simp only[h,decide_true,decide_false,Bool.not_true,Bool.not_false,decide_eq_true_eq,decide_eq_false_iff_not]<;>omega
  have p1:hS (b::r)=(!(r==[])&&(b.toNat:Int)==48):=by cases r<;>rfl
  simp only[f115,zi,he,hl,hK,Bool.not_false,cond_true,Bool.not_not,hb,Option.bind_some];have fin:(b::r).length<=9->hS (b::r)=false->((rB ((b::r,((999:Int),((0:Int),(((b::r).length:Int),((0:Int),()))))),())).bind fun Hp=>match Hp with
    |.inl u_=>some ((u_.1.1,(u_.1.2.1,())),())
    |.inr qb=>bif decide (qb.1.2.1>qb.1.1) then some (((0:Int),(false,())),()) else some ((qb.1.2.1,(true,())),()))=
    some ((bif fj (b::r) then c4 (b::r) else 0,(fj (b::r),())),()):=by
   intro hK jz;rw[key hK];unfold fj;rw[he,jz];cases Z:List.all (b::r) cI with
   |false=>rfl
   |true=>
    simp only[cond_true,Option.bind_some,Bool.not_false,Bool.true_and,mN];by_cases cl:(b::r).length<=6
    ·simp only[cl,decide_true,Bool.true_and];cases decide (c4 (b::r)<=999)<;>rfl
    ·have:=aeE Z jz (by omega)
     have:decide (c4 (b::r)<=999)=false:=by simp only[decide_eq_false_iff_not];omega
     rw[this];simp only[cl,decide_false,Bool.false_and];rfl
  by_cases ar:(b::r).length<=9
  ·simp only[ar,decide_true,cond_true];cases hr:(r==[]) with
   |true=>
    simp only[Bool.not_true,cond_false,Option.bind_some];exact fin ar (by rw[p1,hr];rfl)
   |false=>
    simp only[Bool.not_false,cond_true,Option.bind_some];cases o8:((b.toNat:Int)==48) with
    |true=>
     have:fj (b::r)=false:=by unfold fj;rw[p1,hr,o8];simp
     rw[this];rfl
    |false=>
     simp only[cond_false];exact fin ar (by rw[p1,hr,o8];rfl)
  ·have:fj (b::r)=false:=by
    unfold fj;have:decide ((b::r).length<=6)=false:=by simp only[decide_eq_false_iff_not];omega
    rw[this];simp
   simp only[ar,decide_false,cond_false,Option.bind_some,cond_true,this]
abbrev yi:Shape:=⟨[ao 0,(1,.ak (.d (.int .u8))),ae 2,bc 7 3000448,ae 8,ae 9],[bb 3000448 .str 7 0],43⟩
abbrev uf:List aO:=[(.exit 0,⟨[ao 0,bc 7 3000448,ae 8],[bb 3000448 .str 7 0],43⟩)]
noncomputable def ol(y:yi.J):bQ yi uf:=
 bif(decide (y.1.2.2.2.2.2.1<(y.1.1.length:Int))) then
 bif(decide ((y.2.1.length:Int)<y.1.2.2.1)) then
(aU y.1.1 y.1.2.2.2.2.2.1).bind fun a=>
 bif((a.toNat:Int)==y.1.2.1) then
(br y.1.1 y.1.2.2.2.2.1 y.1.2.2.2.2.2.1).bind fun b=>
(cy 16 y.2.1 ([b]:List F)).bind fun c=>
 some (.inl ((y.1.1,y.1.2.1,y.1.2.2.1,(),(IntKind.i64.wrap (y.1.2.2.2.2.2.1+(1:Int))),(IntKind.i64.wrap (y.1.2.2.2.2.2.1+(1:Int))),()),c,()))
else
 some (.inl ((y.1.1,y.1.2.1,y.1.2.2.1,(),y.1.2.2.2.2.1,(IntKind.i64.wrap (y.1.2.2.2.2.2.1+(1:Int))),()),y.2.1,()))
else
 some (.inr ((y.1.1,(),y.1.2.2.2.2.1,()),y.2.1,()))
else
 some (.inr ((y.1.1,(),y.1.2.2.2.2.1,()),y.2.1,()))
noncomputable def uo:yi.J->Option (ay uf):=bx ol
theorem aeU:aW U (an (codeOf Tryz.f73) 1 122) (a_ yi uf uo):=bR g0 (by kernel_rfl) ag fun y=>by kernel_rfl
abbrev i73:Shape:=⟨[ao 0,(1,.ak (.d (.int .u8))),ae 2],[],43⟩
abbrev Wf:Shape:=⟨[bc 6 3000384],[bb 3000384 .str 6 0],43⟩
noncomputable def f73(a:i73.J):Option Wf.J:=
(uo ((a.1.1,a.1.2.1,a.1.2.2.1,(),(0:Int),(0:Int),()),([]:List F),())).bind fun b=>
(br b.1.1 b.1.2.2.1 (b.1.1.length:Int)).bind fun c=>
(cy 16 b.2.1 ([c]:List F)).bind fun d=>
 some (((),()),d,())
noncomputable def to:aH:=aP aj Tryz.f73 i73 Wf [] f73
theorem vC:aF U 73 to:=aS g0 Tryz.func73 (by kernel_rfl) (a' aeU ag) (fun y=>by kernel_rfl) fun a=>by kernel_rfl
abbrev cZ(n:Nat):Prop:=n<=2097152
theorem pn(c:UInt8):∀s,bJ c s≠[]:=by
 intro s;induction s with
 |nil=>intro h;cases h
 |cons b r ih=>
  unfold bJ;cases b==c with
  |true=>intro h;cases h
  |false=>
   simp only[cond_false];split<;>intro h<;>cases h
def sN(acc:F):List F->List F
 |x::xs=>(acc++x)::xs
 |[]=>[acc]
theorem N_{L:List F}(h:L≠[]):sN [] L=L:=by
 cases L with
 |nil=>exact absurd rfl h
 |cons x xs=>rfl
theorem rb(c:UInt8):∀s,(bJ c s).length<=s.length+1:=by
 intro s;induction s with
 |nil=>exact Nat.le_refl _
 |cons b r ih=>
  unfold bJ;cases b==c with
  |true=>simpa using ih
  |false=>
   simp only[cond_false];split
   ·rename_i x xs h;rw[h] at ih;simp at ih ⊢;omega
   ·simp
theorem w6(c:UInt8):∀s x,x∈bJ c s->x.length<=s.length:=by
 intro s;induction s with
 |nil=>intro x h;simp[bJ] at h;simp[h]
 |cons b r ih=>
  intro x h;unfold bJ at h;cases hb:b==c with
  |true=>
   rw[hb,cond_true] at h;rcases List.mem_cons.1 h with rfl|h
   ·simp
   ·have:=ih x h;simp;omega
  |false=>
   rw[hb,cond_false] at h;split at h
   ·rename_i y bd hy;rcases List.mem_cons.1 h with rfl|h
    ·have:=ih y (by rw[hy];exact List.mem_cons_self);simp;omega
    ·have:=ih x (by rw[hy];exact List.mem_cons_of_mem _ h);simp;omega
   ·simp at h;simp[h]
theorem ael{bp:Type}(c:UInt8)(s:F)(fin:Nat×List F->bp):∀(r:F) (k:Nat) (q:Nat×List F),r=s.drop k->k<=s.length->q.1<=k->
  ∃fl,eI (fun i x (q:Nat×List F)=>some (.inl (bif(x.toNat:Int)==(c.toNat:Int) then(i+1,q.2++[(s.take i).drop q.1]) else q):Sum (Nat×List F) bp)) fin k r q=some (fin fl)/\fl.1<=s.length/\
   fl.2++[s.drop fl.1]=q.2++sN ((s.take k).drop q.1) (bJ c r):=by
 intro r;induction r with
 |nil=>
  intro k q hr hk ar;have hkl:k=s.length:=by
   have:=congrArg List.length hr;simp at this;omega
  refine⟨q,rfl,by omega,?_⟩
  rw[hkl,List.take_length];simp[bJ,sN]
 |cons x r ih=>
  intro k q hr hk ar;have hlt:k<s.length:=by
   have:=congrArg List.length hr;simp at this;omega
  have dk:r=s.drop (k+1):=by
   have:=congrArg List.tail hr;simpa using this
  have hx:s[k]? =some x:=by
   have:=congrArg (fun l=>l[0]?) hr
   simpa using this.symm
  simp only[eI];cases hc:((x.toNat:Int)==(c.toNat:Int)) with
  |true=>
   have I1:x=c:=by
    simp only[beq_iff_eq] at hc;exact UInt8.toNat_inj.1 (by omega)
   simp only[cond_true];obtain⟨fl,h1,h2,h3⟩:=ih (k+1) (k+1,q.2++[(s.take k).drop q.1]) dk hlt (Nat.le_refl _);refine⟨fl,h1,h2,h3.trans ?_⟩;have e1:(s.take (k+1)).drop (k+1)=[]:=List.drop_eq_nil_of_le (by rw[List.length_take];omega)
   simp only[e1];rw[N_ (pn c r)];subst I1;have:bJ x (x::r)=[]::bJ x r:=by simp[bJ]
   rw[this];simp[sN]
  |false=>
   have I1:(x==c)=false:=by
    cases h:x==c with
    |false=>rfl
    |true=>rw[eq_of_beq h] at hc;simp at hc
   simp only[cond_false];obtain⟨fl,h1,h2,h3⟩:=ih (k+1) q dk hlt (by omega)
   refine⟨fl,h1,h2,h3.trans ?_⟩;have e1:(s.take (k+1)).drop q.1=(s.take k).drop q.1++[x]:=by
    rw[List.take_add_one,hx];rw[List.drop_append_of_le_length (by rw[List.length_take];omega)]
    rfl
   rw[e1];have:bJ c (x::r)=sN [x] (bJ c r):=by
    rw[bJ,I1,cond_false];cases h:bJ c r with
    |nil=>rfl
    |cons y bd=>rfl
   rw[this];cases h:bJ c r with
   |nil=>exact absurd h (pn c r)
   |cons y bd=>simp[sN]
theorem Oq(c:UInt8)(a)(hs:cZ a.1.1.length)(hb:a.1.2.1=(c.toNat:Int))(hm:a.1.2.2.1=((a.1.1.length+1:Nat):Int)):f73 a=some (((),()),(bJ c a.1.1,())):=by
 obtain⟨⟨s,b,m,u⟩,cn⟩:=a;obtain rfl:b=(c.toNat:Int):=hb;obtain rfl:m=((s.length+1:Nat):Int):=hm;have hs:s.length<=2097152:=hs;have key:=ly ol s (fun i (q:Nat×List F)=>((s,((c.toNat:Int),(((s.length+1:Nat):Int),((),((q.1:Int),((i:Int),())))))),(q.2,())))
  (fun i x (q:Nat×List F)=>some (.inl (bif(x.toNat:Int)==(c.toNat:Int) then(i+1,q.2++[(s.take i).drop q.1]) else q))) (fun q=>(((s,((),((q.1:Int),()))),(q.2,())):ay uf))
  (fun i q=>q.1<=i/\q.2.length<=i) (0,[]) ⟨Nat.le_refl _,Nat.le_refl _⟩ (fun i x q hx dl=>?_) (fun q dl=>?_)
 ·obtain⟨fl,h1,h2,h3⟩:=ael c s (fun q=>(((s,((),((q.1:Int),()))),(q.2,())):ay uf)) s 0 (0,[]) rfl (Nat.zero_le _) (Nat.le_refl _)
  have key:uo ((s,((c.toNat:Int),(((s.length+1:Nat):Int),((),((0:Int),((0:Int),())))))),(([]:List F),()))=some ((s,((),((fl.1:Int),()))),(fl.2,())):=key.trans h1;simp only[f73,key,Option.bind_some];rw[gl h2];have h3:fl.2++[s.drop fl.1]=bJ c s:=by
   rw[h3];simp only[List.take_zero,List.drop_nil,List.nil_append];exact N_ (pn c s)
  have hl:fl.2.length<=s.length+1:=by
   have:=congrArg List.length h3;have ax:=rb c s;simp only[List.length_append,List.length_cons,List.length_nil] at this;omega
  simp only[Option.bind_some];rw[dZ (by decide) (by unfold aq;simp only[List.length_cons,List.length_nil];omega)]
  simp only[Option.bind_some,h3]
 ·have hi:=dd hx;have hw:aq i:=by unfold aq;omega
  obtain⟨h0,h1⟩:=dl;have hlt:decide ((q.2.length:Int)<((s.length+1:Nat):Int))=true:=cp (by omega)
  refine⟨?_,fun fl nP=>?_⟩
  ·simp only[ol,cp hi,cond_true,hlt,b6,hx,Option.bind_some];cases hc:((x.toNat:Int)==(c.toNat:Int)) with
   |true=>
    simp only[cond_true];rw[px h0 (by omega)]
    simp only[Option.bind_some];rw[dZ (by decide) (by unfold aq;simp only[List.length_cons,List.length_nil];omega)]
    simp only[Option.bind_some,Option.map_some,b0 hw]
   |false=>simp only[cond_false,Option.map_some,b0 hw]
  ·simp only[Option.some.injEq,Sum.inl.injEq] at nP;subst nP;cases (x.toNat:Int)==(c.toNat:Int) with
   |true=>simp only[cond_true,List.length_append,List.length_cons,List.length_nil];omega
   |false=>simp only[cond_false];omega
 ·simp only[ol,dM,cond_false]
noncomputable def RB:aH:=Dw
theorem aia:aF U 271 RB:=ZQ (fn:=Tryz.f271) (by kernel_rfl) (by kernel_rfl) (by kernel_rfl) (by kernel_rfl) (by kernel_rfl)
noncomputable abbrev alC:bh:=[(271,RB)]
theorem amM:a7 U (bg aj alC):=bf ⟨aia,⟨⟩⟩
abbrev i244:Shape:=⟨[ao 0,(1,.ak (.d (.int .u8)))],[],8⟩
abbrev Sg:Shape:=⟨[ae 4],[],8⟩
noncomputable def f244(a:i244.J):Option Sg.J:=
(some ()).bind fun atH=>
 some (((Lib.indexByte a.1.1 (a.1.2.1).toNat.toUInt8),()),())
noncomputable def Ug:aH:=aP aj Tryz.f244 i244 Sg [] f244
theorem ajs:aF U 244 Ug:=aS amM Tryz.func244 (by kernel_rfl) ag (fun y=>by kernel_rfl) fun a=>by kernel_rfl
noncomputable abbrev alO:bh:=[(244,Ug)]
theorem Vs:a7 U (bg aj alO):=bf ⟨ajs,⟨⟩⟩
abbrev OW:Shape:=⟨[ao 0,ao 1,ae 5],[],143⟩
abbrev OD:List aO:=[(.norm,⟨[ao 0,ao 1,ae 5,au 16],[],143⟩)]
noncomputable def y4(y:OW.J):Option (ay OD):=
 bif(!(y.1.2.2.1==(0:Int))) then
 some ((y.1.1,y.1.2.1,y.1.2.2.1,(y.1.2.1==y.1.1),()),())
else
 some ((y.1.1,y.1.2.1,y.1.2.2.1,true,()),())
theorem ae8:aW U (an (codeOf Tryz.f209) 1 56) (a_ OW OD y4):=cS Vs (by kernel_rfl) ag fun y=>by kernel_rfl
abbrev i209:Shape:=⟨[ao 0,ao 1],[],143⟩
abbrev Sw:Shape:=⟨[ae 4],[],143⟩
noncomputable def f209(a:i209.J):Option Sw.J:=
(y4 ((a.1.1,a.1.2.1,(a.1.2.1.length:Int),()),())).bind fun tw=>
 bif tw.1.2.2.2.1 then
 some (((0:Int),()),())
else
 bif(tw.1.2.2.1==(1:Int)) then
(aU tw.1.2.1 (0:Int)).bind fun J'=>
(f244 ((tw.1.1,(J'.toNat:Int),()),())).bind fun r8=>
 some ((r8.1.1,()),())
else
 bif(decide (tw.1.2.2.1>=(tw.1.1.length:Int))) then
 some ((((-1):Int),()),())
else
 none
noncomputable def Ic:aH:=aP aj Tryz.f209 i209 Sw [] f209
theorem RM:aF U 209 Ic:=aS Vs Tryz.func209 (by kernel_rfl) (a' ae8 ag) (fun y=>by kernel_rfl) fun a=>by kernel_rfl
noncomputable abbrev alM:bh:=[(209,Ic)]
theorem amU:a7 U (bg aj alM):=bf ⟨RM,⟨⟩⟩
abbrev i212:Shape:=⟨[ao 0,ao 1],[],8⟩
abbrev Su:Shape:=⟨[ae 4],[],8⟩
noncomputable def f212(a:i212.J):Option Su.J:=
(f209 ((a.1.1,a.1.2.1,()),())).bind fun b=>
 some ((b.1.1,()),())
noncomputable def Bb:aH:=aP aj Tryz.f212 i212 Su [] f212
theorem z212:aF U 212 Bb:=aS amU Tryz.func212 (by kernel_rfl) ag (fun y=>by kernel_rfl) fun a=>by kernel_rfl
noncomputable abbrev H6:Ctx:=bg aj [(212,Bb)]
noncomputable def A9:Code:=codeOf Tryz.f266
noncomputable def nE:Code:=c8 (an A9 1 12)
noncomputable def Aw(p j:Nat):Oper:=(opsOf (an nE 24 p)).getD j default
noncomputable def G7(j:Nat):Oper:=(opsOf (an A9 1 7)).getD j default
theorem ahw(c:UInt8)(r:F):f212 ((r,([c],())),())=some ((Lib.indexByte r c,()),()):=by
 have h0:aU ([c]:F) (0:Int)=some c:=rfl;have h1:((([c]:F).length:Int)==0)=false:=rfl;have h2:((([c]:F).length:Int)==1)=true:=rfl;have h3:((c.toNat:Int)).toNat.toUInt8=c:=by simp
 simp only[f212,f209,y4,f244,h0,h1,h2,h3,Bool.not_false,cond_true,cond_false,Option.bind_some,Option.bind];by_cases h:(([c]:F)==r)=true
 ·have:r=[c]:=(by simpa using h:[c]=r).symm
  subst this;simp[Lib.indexByte]<;>rfl
 ·simp[h]<;>rfl
theorem ai4(c:UInt8)(r:F):exec (gE H6 []) (an nE 24 96) 96 (mF 52 c r) (A1 (gE H6 []) 52 7 8 (an nE 24 194) (an nE 24 390) 194 390)=
 (f212 ((r,([c],())),())).bind fun q=>bif decide (q.1.1<0) then some (.inl (kC 52 c r)) else(br r 0 (IntKind.i64.wrap (q.1.1+0))).bind fun x=>some (.inr ((q.1.1,x),kC 52 c r)):=by kernel_rfl
theorem Rn:uN U 266:=
 afW (C:=gE H6 []) (bf ⟨z212,⟨⟩⟩) (fn:=Tryz.f266) (k:=52) (A:=an A9 1 2) (r5:=an nE 24 96) (c6:=an nE 24 194) (r7:=an nE 24 390) (r9:=an nE 24 783)
  (o0:=Aw 1564 0) (o1:=Aw 1564 1) (o2:=Aw 1564 2) (o3:=Aw 1564 3) (q0:=G7 0) (q1:=G7 1) (q2:=G7 2) (pA:=2) (p5:=96) (p6:=194) (p7:=390) (p9:=783) (t7:=7) (t8:=8) (a1:=39) (a2:=40)
  (t41:=41) (t42:=42) (u1:=49) (u2:=50) (ty:=#[9]) (Br:=#[9])
  {TG:=(by kernel_rfl),nt:=(by kernel_rfl),cQ:=(by decide),e_:=(by kernel_rfl),Xk:=enters_of Tryz.func266 (by kernel_rfl) rfl,body:=⟨sk (an nE 24 1564),sk (an A9 1 7),(by kernel_rfl)⟩,wA:=(by kernel_rfl),wr:=(by kernel_rfl),
   bf:=⟨(by kernel_rfl),(by kernel_rfl),(by kernel_rfl),(by kernel_rfl),(by kernel_rfl),(by kernel_rfl),(by kernel_rfl)⟩,Yb:=(by kernel_rfl),Ya:=(by kernel_rfl),d2:=(by kernel_rfl),HD:=(by decide),c2:=(by kernel_rfl),d5:=(by kernel_rfl),
   kg:=⟨kO (by kernel_rfl) ag,kO (by kernel_rfl) ag,kO (by kernel_rfl) ag,kO (by kernel_rfl) ag,kO (by kernel_rfl) ag⟩,
   dX:=fun c r=>(by kernel_rfl),hB:=fun c r=>(ai4 c r).trans (by rw[ahw];rfl),be:=fun c r i x v=>(by kernel_rfl),h3:=fun c r b=>(by kernel_rfl),Xh:=(by kernel_rfl),wI:=fun c r i=>(by kernel_rfl),Cg:=fun c r v=>(by kernel_rfl)}
  (by kernel_rfl) (by decide)
noncomputable abbrev amd:bh:=[(115,Bc)]
theorem It:a7 U (bg aj amd):=bf ⟨Hi,⟨⟩⟩
abbrev MK:Shape:=⟨[aM 2 2 0,aM 3 3 0,aM 4 4 0,ae 6,au 7],[bv 5000128 .i64 2 0,aL 2 [.own 5000128],aL 3 [lp],bv 5000256 .i64 4 0,aL 4 [.own 5000256]],28⟩
abbrev Ms:List aO:=[(.norm,⟨[aM 2 2 0,aM 3 3 0,aM 4 4 0,ae 6,au 22],[bv 5000128 .i64 2 0,aL 2 [.own 5000128],aL 3 [lp],bv 5000256 .i64 4 0,aL 4 [.own 5000256]],28⟩)]
noncomputable def DA(y:MK.J):Option (ay Ms):=
 bif(!(!y.1.2.2.2.2.1)) then
 some (((),(),(),y.1.2.2.2.1,((y.2.2.2.2.1.length:Int)==(4:Int)),()),y.2.1,((),()),(y.2.2.2.1.1,()),y.2.2.2.2.1,((),()),())
else
 some (((),(),(),y.1.2.2.2.1,true,()),y.2.1,((),()),(y.2.2.2.1.1,()),y.2.2.2.2.1,((),()),())
theorem abJ:aW U (an (jL (an (codeOf Tryz.f151) 1 58)) 117 1876) (a_ MK Ms DA):=cS It (by kernel_rfl) ag fun y=>by kernel_rfl
abbrev yC:Shape:=⟨[aM 2 2 0,aM 3 3 0,aM 4 4 0],[bv 5000128 .i64 2 0,aL 2 [.own 5000128],aL 3 [lp],bv 5000256 .i64 4 0,aL 4 [.own 5000256]],28⟩
abbrev E4:List aO:=[(.norm,⟨[aM 2 2 0,aM 3 3 0,aM 4 4 0],[bv 5000128 .i64 2 0,aL 2 [.own 5000128],aL 3 [lp],bv 5000256 .i64 4 0,aL 4 [.own 5000256]],28⟩),(.ret,⟨[aM 2 2 0,aM 3 3 0],[bv 5000128 .i64 2 0,aL 2 [.own 5000128],aL 3 [lp]],28⟩)]
noncomputable def rQ(x:F)(y:yC.J):bQ yC E4:=
(f115 ((x,(999:Int),()),())).bind fun a=>
(DA (((),(),(),a.1.1,a.1.2.1,()),y.2.1,((),()),(y.2.2.2.1.1,()),y.2.2.2.2.1,((),()),())).bind fun b=>
 bif b.1.2.2.2.2.1 then
 some (.inr (.inr (((),(),()),([]:List Int),((),()),(false,()),())))
else
(cy 8 b.2.2.2.2.1 ([b.1.2.2.2.1]:List Int)).bind fun c=>
 some (.inl (((),(),(),()),b.2.1,((),()),(b.2.2.2.1.1,()),c,((),()),()))
noncomputable def uu(y:yC.J):Option (ay E4):=
 some (.inl (((),(),(),()),y.2.1,((),()),(y.2.2.2.1.1,()),y.2.2.2.2.1,((),()),()))
theorem afq:aW U (an (codeOf Tryz.f151) 1 58) (rz 266 9 yC E4 rQ uu):=Lw (eL:=10) It Rn (by kernel_rfl) (a' abJ ag) (by kernel_rfl) (fun x y=>by kernel_rfl) fun y=>by kernel_rfl
abbrev i151:Shape:=⟨[ao 0],[],28⟩
abbrev S4:Shape:=⟨[aM 2 2 0,aM 3 3 0],[bv 5000128 .i64 2 0,aL 2 [.own 5000128],aL 3 [lp]],28⟩
noncomputable def f151(a:i151.J):Option S4.J:=
(bif Nat.ble a.1.1.length j' then ie rQ uu (bJ (46:UInt8) a.1.1) (((),(),(),()),([]:List Int),((),()),(false,()),([]:List Int),((),()),()) else none).bind fun b=>
(match b with
|.inl c=>
 some (((),(),()),c.2.2.2.2.1,((),()),(true,()),())
|.inr d=>
 some (((),(),()),d.2.1,((),()),(d.2.2.2.1.1,()),()))
noncomputable def Ik:aH:=aP aj Tryz.f151 i151 S4 [] f151
theorem RQ:aF U 151 Ik:=aS It Tryz.func151 (by kernel_rfl) (a' afq ag) (fun y=>by kernel_rfl) fun a=>by kernel_rfl
noncomputable abbrev amH:bh:=[(151,Ik)]
theorem anc:a7 U (bg aj amH):=bf ⟨RQ,⟨⟩⟩
abbrev i100:Shape:=⟨[ao 0],[],11⟩
abbrev TA:Shape:=⟨[au 2],[],11⟩
noncomputable def f100(a:i100.J):Option TA.J:=
(f151 ((a.1.1,()),())).bind fun b=>
 some ((b.2.2.2.1.1,()),())
noncomputable def Bd:aH:=aP aj Tryz.f100 i100 TA [] f100
theorem Hj:aF U 100 Bd:=aS anc Tryz.func100 (by kernel_rfl) ag (fun y=>by kernel_rfl) fun a=>by kernel_rfl
noncomputable abbrev amG:bh:=[(99,JT),(100,Bd)]
theorem VN:a7 U (bg aj amG):=bf ⟨VR,Hj,⟨⟩⟩
abbrev NU:Shape:=⟨[aM 1 1 0,ae 8],[aL 1 [ai,bo,ai]],21⟩
abbrev NG:List aO:=[(.norm,⟨[aM 1 1 0,au 14],[aL 1 [ai,bo,ai]],21⟩)]
noncomputable def EB(y:NU.J):Option (ay NG):=
 bif(y.1.2.1==(1:Int)) then
 some (((),(y.1.2.1==(1:Int)),()),(y.2.1.1,y.2.1.2.1,y.2.1.2.2.1,()),())
else
 bif(y.1.2.1==(2:Int)) then
 some (((),(y.1.2.1==(2:Int)),()),(y.2.1.1,y.2.1.2.1,y.2.1.2.2.1,()),())
else
 some (((),(y.1.2.1==(3:Int)),()),(y.2.1.1,y.2.1.2.1,y.2.1.2.2.1,()),())
theorem adH:aW U (an (codeOf Tryz.f102) 1 470) (a_ NU NG EB):=cS VN (by kernel_rfl) ag fun y=>by kernel_rfl
abbrev i102:Shape:=⟨[cB 0 [ai,bo,ai]],[],21⟩
abbrev Tz:Shape:=⟨[au 2],[],21⟩
noncomputable def f102(a:i102.J):Option Tz.J:=
(f99 ((a.1.1.1,()),())).bind fun b=>
 bif(!b.1.1) then
 some ((false,()),())
else
 bif(a.1.1.2.1==(0:Int)) then
 some (((a.1.1.2.2.1==([]:F)),()),())
else
(EB (((),a.1.1.2.1,()),(a.1.1.1,a.1.1.2.1,a.1.1.2.2.1,()),())).bind fun c=>
 bif c.1.2.1 then
(f100 ((c.2.1.2.2.1,()),())).bind fun d=>
 some ((d.1.1,()),())
else
 some ((false,()),())
noncomputable def vx:aH:=aP aj Tryz.f102 i102 Tz [] f102
theorem AU:aF U 102 vx:=aS VN Tryz.func102 (by kernel_rfl) (a' adH ag) (fun y=>by kernel_rfl) fun a=>by kernel_rfl
noncomputable abbrev amk:bh:=[(73,to),(74,B3),(75,nZ)]
theorem VC:a7 U (bg aj amk):=bf ⟨vC,IB,z75,⟨⟩⟩
abbrev xZ:Shape:=⟨[bc 4 3000256,bc 5 3000320,ae 6],[bb 3000256 .str 4 0,bb 3000320 .i64 5 0],37⟩
abbrev pw:List aO:=[(.ret,⟨[bc 2 3000128,au 3],[bb 3000128 .i64 2 0],37⟩),(.exit 0,⟨[bc 4 3000256,bc 5 3000320],[bb 3000256 .str 4 0,bb 3000320 .i64 5 0],37⟩)]
noncomputable def ye(y:xZ.J):bQ xZ pw:=
 bif(decide (y.1.2.2.1<(y.2.1.length:Int))) then
(a6 y.2.1.length y.1.2.2.1).bind fun a=>
(y.2.1[a]?).bind fun b=>
(f74 ((b,()),())).bind fun c=>
(f75 ((c.1.1,(0:Int),(999:Int),()),())).bind fun d=>
 bif(!d.1.1) then
 some (.inr (.inl (((),false,()),y.2.2.1,())))
else
(cy 8 y.2.2.1 ([c.1.1]:List Int)).bind fun e=>
 some (.inl (((),(),(IntKind.i64.wrap (y.1.2.2.1+(1:Int))),()),y.2.1,e,()))
else
 some (.inr (.inr (((),(),()),y.2.1,y.2.2.1,())))
noncomputable def El:xZ.J->Option (ay pw):=bx ye
theorem adA:aW U (an (codeOf Tryz.f140) 1 122) (a_ xZ pw El):=bR VC (by kernel_rfl) ag fun y=>by kernel_rfl
abbrev i140:Shape:=⟨[ao 0],[],37⟩
abbrev Tc:Shape:=⟨[bc 2 3000128,au 3],[bb 3000128 .i64 2 0],37⟩
noncomputable def f140(a:i140.J):Option Tc.J:=
(f73 ((a.1.1,(46:Int),(IntKind.i64.wrap ((a.1.1.length:Int)+(1:Int))),()),())).bind fun b=>
(El (((),(),(0:Int),()),b.2.1,([]:List Int),())).bind fun c=>
(match c with
|.inl d=>
 some (((),d.1.2.1,()),d.2.1,())
|.inr e=>
 some (((),(decide ((e.2.1.length:Int)<=(4:Int))),()),e.2.2.1,()))
noncomputable def Il:aH:=aP aj Tryz.f140 i140 Tc [] f140
theorem RR:aF U 140 Il:=aS VC Tryz.func140 (by kernel_rfl) (a' adA ag) (fun y=>by kernel_rfl) fun a=>by kernel_rfl
noncomputable abbrev aqv:bh:=[(140,Il)]
theorem aq4:a7 U (bg aj aqv):=bf ⟨RR,⟨⟩⟩
abbrev i88:Shape:=⟨[ao 0],[],11⟩
abbrev V9:Shape:=⟨[au 2],[],11⟩
noncomputable def f88(a:i88.J):Option V9.J:=
(f140 ((a.1.1,()),())).bind fun b=>
 some ((b.1.2.1,()),())
noncomputable def JU:aH:=aP aj Tryz.f88 i88 V9 [] f88
theorem VS:aF U 88 JU:=aS aq4 Tryz.func88 (by kernel_rfl) ag (fun y=>by kernel_rfl) fun a=>by kernel_rfl
noncomputable abbrev alV:bh:=[(75,nZ),(87,JV),(88,JU)]
theorem amX:a7 U (bg aj alV):=bf ⟨z75,z87,VS,⟨⟩⟩
abbrev i192:Shape:=⟨[cB 0 [ai,bo,ai]],[],26⟩
abbrev SG:Shape:=⟨[au 2],[],26⟩
noncomputable def f192(a:i192.J):Option SG.J:=
(f87 ((a.1.1.1,()),())).bind fun b=>
 bif b.1.1 then
 bif(a.1.1.2.1==(0:Int)) then
 bif(!(a.1.1.2.2.1==([]:F))) then
(f75 ((a.1.1.2.1,(1:Int),(3:Int),()),())).bind fun c=>
 bif c.1.1 then
(f88 ((a.1.1.2.2.1,()),())).bind fun d=>
 some ((d.1.1,()),())
else
 some ((false,()),())
else
 some ((true,()),())
else
(f75 ((a.1.1.2.1,(1:Int),(3:Int),()),())).bind fun e=>
 bif e.1.1 then
(f88 ((a.1.1.2.2.1,()),())).bind fun f=>
 some ((f.1.1,()),())
else
 some ((false,()),())
else
 some ((false,()),())
noncomputable def Ih:aH:=aP aj Tryz.f192 i192 SG [] f192
theorem RO:aF U 192 Ih:=aS amX Tryz.func192 (by kernel_rfl) ag (fun y=>by kernel_rfl) fun a=>by kernel_rfl
theorem LM:∀(r:F) (n:Int),r.all cI=true->0<=n->0<=r.foldl dS n:=by
 intro r;induction r with
 |nil=>intro n _ h;exact h
 |cons b r ih=>
  intro n Z h;simp only[List.all_cons,Bool.and_eq_true] at Z;have hb:=ir Z.1;exact ih _ Z.2 (by unfold dS;omega)
def hQ(s:F):List F:=bJ 46 s
def dY(s:F):Bool:=(hQ s).all fj&&decide ((hQ s).length<=4)
def hd(s:F):List Int:=(hQ s).map c4
theorem _r(x:F):within (bif x.all cI&&decide (x.length<=6)&&!(x==[])&&!hS x then c4 x else-1) 0 999=fj x:=by
 unfold fj within;cases h1:x.all cI with
 |false=>simp
 |true=>
  have:=LM x 0 h1 (Int.le_refl _);have hv:decide ((0:Int)<=c4 x)=true:=by simp only[decide_eq_true_eq];exact this
  cases h2:decide (x.length<=6)<;>cases h3:(x==[])<;>cases ax:hS x<;>simp[hv]
theorem C1(a)(hs:cZ a.1.1.length):∃out,f140 a=some (((),(dY a.1.1,())),(out,()))/\(dY a.1.1=true->out=hd a.1.1):=by
 obtain⟨⟨s,u⟩,cn⟩:=a;have hs:s.length<=2097152:=hs;have hlen:=rb 46 s;have fB:f73 ((s,((46:Int),((IntKind.i64.wrap ((s.length:Int)+(1:Int))),()))),())=some (((),()),(hQ s,())):=
  Oq 46 _ hs rfl (b0 (by unfold aq;omega))
 have key:=ly ye (hQ s) (fun i (out:List Int)=>(((),((),((i:Int),()))),(hQ s,(out,()))))
  (fun i x out=>some (bif fj x then .inl (out++[c4 x]) else .inr ((.inl (((),(false,())),(out,()))):ay pw))) (fun out=>((.inr (((),((),())),(hQ s,(out,())))):ay pw))
  (fun i out=>out.length<=i) [] (Nat.le_refl _) (fun i x out hx dl=>?_) (fun out _=>?_)
 ·have fold:∀(r:List F) (k:Nat) (out:List Int),eI (fun i x out=>some (bif fj x then .inl (out++[c4 x]) else .inr ((.inl (((),(false,())),(out,()))):ay pw))) (fun out=>((.inr (((),((),())),(hQ s,(out,())))):ay pw)) k r out=
    some (bif r.all fj then(.inr (((),((),())),(hQ s,(out++r.map c4,())))) else(.inl (((),(false,())),(out++(r.takeWhile fj).map c4,())))):=by
   intro r;induction r with
   |nil=>intro k out;simp[eI]
   |cons x r ih=>
    intro k out;simp only[eI,List.all_cons];cases hn:fj x with
    |false=>simp[hn]
    |true=>simp only[cond_true,Bool.true_and];rw[ih];simp[hn,List.append_assoc]
  have key:El (((),((),((0:Int),()))),(hQ s,(([]:List Int),())))=_:=key.trans (fold (hQ s) 0 []);simp only[f140,fB,Option.bind_some,key,List.nil_append];unfold dY;cases mz:(hQ s).all fj with
  |false=>exact⟨_,rfl,fun h=>by cases h⟩
  |true=>
   simp only[cond_true,Bool.true_and];have:decide (((hQ s).length:Int)<=4)=decide ((hQ s).length<=4):=by by_cases h:(hQ s).length<=4<;>simp[h]<;>omega
   rw[this];exact⟨_,rfl,fun _=>rfl⟩
 ·have hi:=dd hx;have uX:(hQ s).length<=s.length+1:=hlen;have hw:aq i:=by unfold aq;omega
  have hxl:x.length<=s.length:=w6 46 s x (List.mem_of_getElem? hx);refine⟨?_,fun aG af=>?_⟩
  ·simp only[ye,cp hi,cond_true,fS hi,hx,Option.bind_some];rw[EL _ (show aq x.length by unfold aq;omega)]
   simp only[Option.bind_some,nm,_r];cases hn:fj x with
   |false=>rfl
   |true=>
    have hv:(bif x.all cI&&decide (x.length<=6)&&!(x==[])&&!hS x then c4 x else-1)=c4 x:=by
     unfold fj at hn;simp only[Bool.and_eq_true] at hn;obtain⟨⟨⟨⟨h1,h2⟩,h3⟩,ax⟩,bk⟩:=hn;rw[h1,ax,h2,h3];rfl
    simp only[Bool.not_true,cond_false,hv,cond_true];rw[dZ (by decide) (by unfold aq;simp only[List.length_cons,List.length_nil];omega)]
    simp only[Option.bind_some,b0 hw,Option.map_some]
  ·simp only[Option.some.injEq] at af;cases hn:fj x with
   |false=>rw[hn] at af;cases af
   |true=>
    rw[hn] at af;simp only[cond_true,Sum.inl.injEq] at af;subst af;simp only[List.length_append,List.length_cons,List.length_nil];omega
 ·simp only[ye,dM,cond_false]
theorem Lh(a)(hs:cZ a.1.1.length):f88 a=some ((dY a.1.1,()),()):=by
 obtain⟨out,h,_⟩:=C1 ((a.1.1,()),()) hs;simp only[f88,h,Option.bind_some]
theorem Cu(a)(hs:cZ a.1.1.length):f151 a=some (((),((),())),((bif dY a.1.1 then hd a.1.1 else []),(((),()),((dY a.1.1,()),())))):=by
 obtain⟨⟨s,u⟩,cn⟩:=a;have hs:s.length<=2097152:=hs;have HY:Nat.ble s.length j'=true:=Nat.ble_eq_true_of_le (by unfold j';omega)
 have fold:∀(r:List F) (out:List Int),(∀x,x∈r->x.length<=s.length)->out.length<=4->
   ie rQ uu r (((),((),((),()))),(([]:List Int),(((),()),((false,()),(out,(((),()),()))))))=
    some (bif r.all fj&&decide (out.length+r.length<=4) then(.inl (((),((),((),()))),(([]:List Int),(((),()),((false,()),(out++r.map c4,(((),()),()))))))) else(.inr (((),((),())),(([]:List Int),(((),()),((false,()),())))))):=by
  intro r;induction r with
  |nil=>
   intro out _ aC;have:decide (out.length+0<=4)=true:=by simpa using aC
   simp only[ie,uu,List.all_nil,List.length_nil,this,Bool.and_self,cond_true,List.map_nil,List.append_nil]
  |cons x r ih=>
   intro out hr aC;have hx:=hr x List.mem_cons_self;have akT:=acG ((x,((999:Int),())),()) (show aq x.length by unfold aq;omega) rfl
   have step:rQ x (((),((),((),()))),(([]:List Int),(((),()),((false,()),(out,(((),()),()))))))=
     some (bif fj x&&decide (out.length+1<=4) then .inl (((),((),((),()))),(([]:List Int),(((),()),((false,()),(out++[c4 x],(((),()),())))))) else .inr (.inr (((),((),())),(([]:List Int),(((),()),((false,()),())))))):=by
    simp only[rQ,akT,Option.bind_some,DA,Bool.not_not];have ax:((out.length:Int)==4)=!decide (out.length+1<=4):=by
     by_cases h:out.length=4
     ·rw[h];rfl
     ·have bk:decide (out.length+1<=4)=true:=by simp only[decide_eq_true_eq];omega
      rw[bk];simp only[beq_eq_false_iff_ne,ne_eq,Bool.not_true];omega
    rw[ax];cases hn:fj x with
    |false=>rfl
    |true=>
     simp only[cond_true,Option.bind_some,Bool.true_and];cases ar:decide (out.length+1<=4) with
     |false=>rfl
     |true=>
      simp only[Bool.not_true,cond_false,cond_true];rw[dZ (by decide) (by unfold aq;simp only[List.length_cons,List.length_nil];omega)]
      rfl
   rw[ie,step,List.all_cons];cases hn:fj x with
   |false=>rfl
   |true=>
    simp only[Bool.true_and];cases ar:decide (out.length+1<=4) with
    |false=>
     have:decide (out.length+(x::r).length<=4)=false:=by simp only[decide_eq_false_iff_not,List.length_cons] at ar ⊢;omega
     rw[this];simp
    |true=>
     simp only[cond_true];rw[ih (out++[c4 x]) (fun y hy=>hr y (List.mem_cons_of_mem _ hy)) (by simp only[List.length_append,List.length_cons,List.length_nil];simpa using ar)]
     have e1:(out++[c4 x]).length+r.length=out.length+(x::r).length:=by simp only[List.length_append,List.length_cons,List.length_nil];omega
     rw[e1,List.map_cons,List.append_assoc];rfl
 have key:=fold (bJ (46:UInt8) s) [] (fun x hx=>w6 46 s x hx) (Nat.zero_le _)
 have HH:ie rQ uu (bJ (46:UInt8) s) (((),((),((),()))),(([]:List Int),(((),()),((false,()),(([]:List Int),(((),()),()))))))=
    some (bif dY s then(.inl (((),((),((),()))),(([]:List Int),(((),()),((false,()),(hd s,(((),()),()))))))) else(.inr (((),((),())),(([]:List Int),(((),()),((false,()),())))))):=by
  rw[key];unfold dY hd hQ;simp only[List.length_nil,Nat.zero_add,List.nil_append]
 simp only[f151,HY,cond_true,HH,Option.bind_some];cases dY s<;>rfl
theorem Cx(a)(hs:cZ a.1.1.length):f100 a=some ((dY a.1.1,()),()):=by
 simp only[f100,Cu ((a.1.1,()),()) hs,Option.bind_some]
def dp(n:bB):Bool:=is n.name&&(n.kind==0&&(n.a8==[])||within n.kind 1 3&&dY n.a8)
abbrev wq(n:bB):Prop:=cZ n.name.length/\cZ n.a8.length
theorem Nt(a)(h1:cZ a.1.1.1.length)(h2:cZ a.1.1.2.2.1.length):f192 a=some ((dp ⟨a.1.1.1,a.1.1.2.1,a.1.1.2.2.1⟩,()),()):=by
 obtain⟨⟨⟨n,k,v,u⟩,cn⟩,nI⟩:=a;have h1:n.length<=2097152:=h1;have h2:v.length<=2097152:=h2;have e1:=Np ((n,()),()) (show aq n.length by unfold aq;omega)
 have e2:=Lh ((v,()),()) h2;simp only[f192,e1,e2,nm,Option.bind_some,dp];cases is n with
 |false=>rfl
 |true=>
  cases hk:(k==0) with
  |false=>
   simp only[cond_true,cond_false];cases within k 1 3<;>cases dY v<;>rfl
  |true=>
   have:within k 1 3=false:=by
    have:k=0:=by simpa using hk
    subst this;decide
   rw[this];cases (v==[])<;>rfl
theorem aaR{k:Int}(ln:¬k=0)(aD:¬k=1)(az:¬k=2)(bD:¬k=3):within k 1 3=false:=by
 unfold within;cases h:(decide (1<=k)&&decide (k<=3)) with
 |false=>rfl
 |true=>simp only[Bool.and_eq_true,decide_eq_true_eq] at h;omega
theorem xk(a)(h1:cZ a.1.1.1.length)(h2:cZ a.1.1.2.2.1.length):f102 a=some ((dp ⟨a.1.1.1,a.1.1.2.1,a.1.1.2.2.1⟩,()),()):=by
 obtain⟨⟨⟨n,k,v,u⟩,cn⟩,nI⟩:=a;have h1:n.length<=2097152:=h1;have h2:v.length<=2097152:=h2;have e1:=K4 ((n,()),()) (show aq n.length by unfold aq;omega)
 have e2:=Cx ((v,()),()) h2;simp only[f102,e1,e2,Option.bind_some,dp,EB];cases is n with
 |false=>rfl
 |true=>
  simp only[Bool.not_true,cond_false,Bool.true_and];by_cases ln:k=0
  ·subst ln;cases (v==[])<;>rfl
  ·have o5:(k==0)=false:=by simpa using ln
   rw[o5];by_cases aD:k=1
   ·subst aD;cases hv:dY v<;>simp[within,e2,hv]
   ·have qD:(k==1)=false:=by simpa using aD
    rw[qD];by_cases az:k=2
    ·subst az;cases hv:dY v<;>simp[within,e2,hv]
    ·have hk2:(k==2)=false:=by simpa using az
     rw[hk2];by_cases bD:k=3
     ·subst bD;cases hv:dY v<;>simp[within,e2,hv]
     ·have apc:(k==3)=false:=by simpa using bD
      rw[apc];rw[aaR ln aD az bD];rfl
noncomputable abbrev ah5:bh:=[(102,vx)]
theorem Q7:a7 U (bg aj ah5):=bf ⟨AU,⟨⟩⟩
abbrev xA:Shape:=⟨[(1,.ak (.fn 102 [])),aK 7 .need,ae 8,ae 9],[],18⟩
abbrev Da:List aO:=[(.ret,⟨[au 4],[],18⟩),(.exit 0,⟨[],[],18⟩)]
noncomputable def xK(y:xA.J):bQ xA Da:=
 bif(decide (y.1.2.2.2.1<y.1.2.2.1)) then
(aU y.1.2.1 y.1.2.2.2.1).bind fun a=>
(f102 (((a.name,a.kind,a.a8,()),()),())).bind fun b=>
 bif(!b.1.1) then
 some (.inr (.inl ((false,()),())))
else
 some (.inl (((),y.1.2.1,y.1.2.2.1,(IntKind.i64.wrap (y.1.2.2.2.1+(1:Int))),()),()))
else
 some (.inr (.inr ((),())))
noncomputable def Du:xA.J->Option (ay Da):=bx xK
theorem abV:aW U (an (codeOf Tryz.f101) 1 26) (a_ xA Da Du):=bR Q7 (by kernel_rfl) ag fun y=>by kernel_rfl
abbrev QD:Shape:=⟨[aK 0 .need,(1,.ak (.fn 102 []))],[],18⟩
abbrev Qk:Shape:=⟨[au 4],[],18⟩
noncomputable def Al(a:QD.J):Option Qk.J:=
(Du (((),a.1.1,(a.1.1.length:Int),(0:Int),()),())).bind fun b=>
(match b with
|.inl c=>
 some ((c.1.1,()),())
|.inr d=>
 some ((true,()),()))
noncomputable def Q2:aH:=aP aj Tryz.f101 QD Qk [] Al
theorem agE:aF U 101 Q2:=aS Q7 Tryz.func101 (by kernel_rfl) (a' abV ag) (fun y=>by kernel_rfl) fun a=>by kernel_rfl
abbrev i104:Shape:=⟨[cB 0 [ai,bo,ai]],[],5⟩
abbrev Ty:Shape:=⟨[ao 2],[],5⟩
noncomputable def f104(a:i104.J):Option Ty.J:=
 some ((a.1.1.1,()),())
noncomputable def Vo:aH:=aP aj Tryz.f104 i104 Ty [] f104
theorem akb:aF U 104 Vo:=aS g0 Tryz.func104 (by kernel_rfl) ag (fun y=>by kernel_rfl) fun a=>by kernel_rfl
abbrev i149:Shape:=⟨[aK 0 .str],[],8⟩
abbrev Hz:Shape:=⟨[bc 2 3000128],[bb 3000128 .str 2 0],8⟩
noncomputable def f149(a:i149.J):Option Hz.J:=
 pu (t:=.str) a.1.1 (some (((),()),([]:List F),())) ((cy 16 ([]:List F) a.1.1).bind fun b=>
 some (((),()),b,()))
noncomputable def UZ:aH:=aP aj Tryz.f149 i149 Hz [] f149
theorem ajX:aF U 149 UZ:=aS g0 Tryz.func149 (by kernel_rfl) ag (fun y=>by kernel_rfl) fun a=>by kernel_rfl
abbrev yu:Shape:=⟨[aK 0 .str,ao 1,ae 7,ae 8],[],19⟩
abbrev rF:List aO:=[(.ret,⟨[ae 4],[],19⟩),(.exit 0,⟨[],[],19⟩)]
noncomputable def y5(y:yu.J):bQ yu rF:=
 bif(decide (y.1.2.2.2.1<y.1.2.2.1)) then
(aU y.1.1 y.1.2.2.2.1).bind fun a=>
 bif(y.1.2.1==a) then
 some (.inr (.inl ((y.1.2.2.2.1,()),())))
else
 some (.inl ((y.1.1,y.1.2.1,y.1.2.2.1,(IntKind.i64.wrap (y.1.2.2.2.1+(1:Int))),()),()))
else
 some (.inr (.inr ((),())))
noncomputable def FA:yu.J->Option (ay rF):=bx y5
theorem afb:aW U (an (codeOf Tryz.f197) 1 26) (a_ yu rF FA):=bR g0 (by kernel_rfl) ag fun y=>by kernel_rfl
abbrev i197:Shape:=⟨[aK 0 .str,ao 1],[],19⟩
abbrev Hw:Shape:=⟨[ae 4],[],19⟩
noncomputable def f197(a:i197.J):Option Hw.J:=
(FA ((a.1.1,a.1.2.1,(a.1.1.length:Int),(0:Int),()),())).bind fun b=>
(match b with
|.inl c=>
 some ((c.1.1,()),())
|.inr d=>
 some ((((-1):Int),()),()))
noncomputable def Uy:aH:=aP aj Tryz.f197 i197 Hw [] f197
theorem ajF:aF U 197 Uy:=aS g0 Tryz.func197 (by kernel_rfl) (a' afb ag) (fun y=>by kernel_rfl) fun a=>by kernel_rfl
noncomputable abbrev ame:bh:=[(197,Uy)]
theorem am4:a7 U (bg aj ame):=bf ⟨ajF,⟨⟩⟩
abbrev i150:Shape:=⟨[aK 0 .str,ao 1],[],9⟩
abbrev S5:Shape:=⟨[au 4],[],9⟩
noncomputable def f150(a:i150.J):Option S5.J:=
(f197 ((a.1.1,a.1.2.1,()),())).bind fun b=>
 some (((decide (b.1.1>=(0:Int))),()),())
noncomputable def UY:aH:=aP aj Tryz.f150 i150 S5 [] f150
theorem ajW:aF U 150 UY:=aS am4 Tryz.func150 (by kernel_rfl) ag (fun y=>by kernel_rfl) fun a=>by kernel_rfl
noncomputable abbrev ah4:bh:=[(104,Vo),(149,UZ),(150,UY)]
theorem Q6:a7 U (bg aj ah4):=bf ⟨akb,ajX,ajW,⟨⟩⟩
abbrev xz:Shape:=⟨[(1,.ak (.fn 104 [])),bc 7 3000448,aK 12 .need,ae 13,ae 14],[bb 3000448 .str 7 0],30⟩
abbrev rl:List aO:=[(.ret,⟨[au 6],[],30⟩),(.exit 0,⟨[],[],30⟩)]
noncomputable def xJ(y:xz.J):bQ xz rl:=
 bif(decide (y.1.2.2.2.2.1<y.1.2.2.2.1)) then
(aU y.1.2.2.1 y.1.2.2.2.2.1).bind fun a=>
(f104 (((a.name,a.kind,a.a8,()),()),())).bind fun b=>
(f150 ((y.2.1,b.1.1,()),())).bind fun c=>
 bif c.1.1 then
 some (.inr (.inl ((true,()),())))
else
(f104 (((a.name,a.kind,a.a8,()),()),())).bind fun d=>
(cy 16 y.2.1 ([d.1.1]:List F)).bind fun e=>
 some (.inl (((),(),y.1.2.2.1,y.1.2.2.2.1,(IntKind.i64.wrap (y.1.2.2.2.2.1+(1:Int))),()),e,()))
else
 some (.inr (.inr ((),())))
noncomputable def Dt:xz.J->Option (ay rl):=bx xJ
theorem abU:aW U (an (codeOf Tryz.f103) 1 58) (a_ xz rl Dt):=bR Q6 (by kernel_rfl) ag fun y=>by kernel_rfl
abbrev QC:Shape:=⟨[aK 0 .need,(1,.ak (.fn 104 [])),aK 2 .str],[],30⟩
abbrev Qj:Shape:=⟨[au 6],[],30⟩
noncomputable def Ak(a:QC.J):Option Qj.J:=
(f149 ((a.1.2.2.1,()),())).bind fun b=>
(Dt (((),(),a.1.1,(a.1.1.length:Int),(0:Int),()),b.2.1,())).bind fun c=>
(match c with
|.inl d=>
 some ((d.1.1,()),())
|.inr e=>
 some ((false,()),()))
noncomputable def Q1:aH:=aP aj Tryz.f103 QC Qj [] Ak
theorem agD:aF U 103 Q1:=aS Q6 Tryz.func103 (by kernel_rfl) (a' abU ag) (fun y=>by kernel_rfl) fun a=>by kernel_rfl
noncomputable abbrev amj:bh:=[(192,Ih)]
theorem VB:a7 U (bg aj amj):=bf ⟨RO,⟨⟩⟩
abbrev yG:Shape:=⟨[aK 0 .need,ae 3],[],19⟩
abbrev E8:List aO:=[(.ret,⟨[au 2],[],19⟩),(.exit 0,⟨[aK 0 .need],[],19⟩)]
noncomputable def zf(y:yG.J):bQ yG E8:=
 bif(decide (y.1.2.1<(y.1.1.length:Int))) then
(aU y.1.1 y.1.2.1).bind fun a=>
(f192 (((a.name,a.kind,a.a8,()),()),())).bind fun b=>
 bif(!b.1.1) then
 some (.inr (.inl ((false,()),())))
else
 some (.inl ((y.1.1,(IntKind.i64.wrap (y.1.2.1+(1:Int))),()),()))
else
 some (.inr (.inr ((y.1.1,()),())))
noncomputable def FK:yG.J->Option (ay E8):=bx zf
theorem afu:aW U (an (codeOf Tryz.f141) 1 26) (a_ yG E8 FK):=bR VB (by kernel_rfl) ag fun y=>by kernel_rfl
abbrev i141:Shape:=⟨[aK 0 .need],[],19⟩
abbrev Tb:Shape:=⟨[au 2],[],19⟩
noncomputable def f141(a:i141.J):Option Tb.J:=
(FK ((a.1.1,(0:Int),()),())).bind fun b=>
(match b with
|.inl c=>
 some ((c.1.1,()),())
|.inr d=>
 some (((decide ((d.1.1.length:Int)<=(6:Int))),()),()))
noncomputable def U7:aH:=aP aj Tryz.f141 i141 Tb [] f141
theorem z141:aF U 141 U7:=aS VB Tryz.func141 (by kernel_rfl) (a' afu ag) (fun y=>by kernel_rfl) fun a=>by kernel_rfl
abbrev xu:Shape:=⟨[aK 0 .str,ae 3,ae 4],[],25⟩
abbrev C7:List aO:=[(.ret,⟨[au 2],[],25⟩),(.exit 2,⟨[aK 0 .str,ae 3],[],25⟩)]
noncomputable def xF(y:xu.J):bQ xu C7:=
 bif(decide (y.1.2.2.1<y.1.2.1)) then
(aU y.1.1 y.1.2.2.1).bind fun a=>
(aU y.1.1 y.1.2.1).bind fun b=>
 bif(a==b) then
 some (.inr (.inl ((true,()),())))
else
 some (.inl ((y.1.1,y.1.2.1,(IntKind.i64.wrap (y.1.2.2.1+(1:Int))),()),()))
else
 some (.inr (.inr ((y.1.1,y.1.2.1,()),())))
noncomputable def Do:xu.J->Option (ay C7):=bx xF
theorem abL:aW U (an (c8 (an (codeOf Tryz.f142) 1 26)) 52 1682) (a_ xu C7 Do):=bR g0 (by kernel_rfl) ag fun y=>by kernel_rfl
abbrev yF:Shape:=⟨[aK 0 .str,ae 3],[],25⟩
abbrev E7:List aO:=[(.ret,⟨[au 2],[],25⟩),(.exit 0,⟨[],[],25⟩)]
noncomputable def ze(y:yF.J):bQ yF E7:=
 bif(decide (y.1.2.1<(y.1.1.length:Int))) then
(Do ((y.1.1,y.1.2.1,(0:Int),()),())).bind fun a=>
(match a with
|.inl b=>
 some (.inr (.inl ((b.1.1,()),())))
|.inr c=>
 some (.inl ((c.1.1,(IntKind.i64.wrap (c.1.2.1+(1:Int))),()),())))
else
 some (.inr (.inr ((),())))
noncomputable def FJ:yF.J->Option (ay E7):=bx ze
theorem aft:aW U (an (codeOf Tryz.f142) 1 26) (a_ yF E7 FJ):=bR g0 (by kernel_rfl) (a' abL ag) fun y=>by kernel_rfl
abbrev i142:Shape:=⟨[aK 0 .str],[],25⟩
abbrev Ta:Shape:=⟨[au 2],[],25⟩
noncomputable def f142(a:i142.J):Option Ta.J:=
(FJ ((a.1.1,(0:Int),()),())).bind fun b=>
(match b with
|.inl c=>
 some ((c.1.1,()),())
|.inr d=>
 some ((false,()),()))
noncomputable def U6:aH:=aP aj Tryz.f142 i142 Ta [] f142
theorem aj0:aF U 142 U6:=aS g0 Tryz.func142 (by kernel_rfl) (a' aft ag) (fun y=>by kernel_rfl) fun a=>by kernel_rfl
noncomputable abbrev aqu:bh:=[(141,U7),(142,U6)]
theorem XU:a7 U (bg aj aqu):=bf ⟨z141,aj0,⟨⟩⟩
abbrev zH:Shape:=⟨[aK 1 .need,bc 5 3000320,ae 6],[bb 3000320 .str 5 0],30⟩
abbrev zA:List aO:=[(.exit 0,⟨[aK 1 .need,bc 5 3000320],[bb 3000320 .str 5 0],30⟩)]
noncomputable def z'(y:zH.J):bQ zH zA:=
 bif(decide (y.1.2.2.1<(y.1.1.length:Int))) then
(aU y.1.1 y.1.2.2.1).bind fun a=>
(cy 16 y.2.1 ([a.name]:List F)).bind fun b=>
 some (.inl ((y.1.1,(),(IntKind.i64.wrap (y.1.2.2.1+(1:Int))),()),b,()))
else
 some (.inr ((y.1.1,(),()),y.2.1,()))
noncomputable def GI:zH.J->Option (ay zA):=bx z'
theorem ag3:aW U (an (codeOf Tryz.f89) 1 58) (a_ zH zA GI):=bR XU (by kernel_rfl) ag fun y=>by kernel_rfl
abbrev i89:Shape:=⟨[ao 0,aK 1 .need],[],30⟩
abbrev V8:Shape:=⟨[au 4],[],30⟩
noncomputable def f89(a:i89.J):Option V8.J:=
(GI ((a.1.2.1,(),(0:Int),()),([a.1.1]:List F),())).bind fun b=>
(f141 ((b.1.1,()),())).bind fun c=>
 bif c.1.1 then
(f142 ((b.2.1,()),())).bind fun d=>
 some (((!d.1.1),()),())
else
 some ((false,()),())
noncomputable def Xt:aH:=aP aj Tryz.f89 i89 V8 [] f89
theorem ank:aF U 89 Xt:=aS XU Tryz.func89 (by kernel_rfl) (a' ag3 ag) (fun y=>by kernel_rfl) fun a=>by kernel_rfl
abbrev sT(ns:List bB):Prop:=cZ ns.length/\∀n,n∈ns->wq n
theorem A0(n:Nat)(k:Nat):decide ((n:Int)<=(k:Int))=decide (n<=k):=by by_cases h:n<=k<;>simp[h]<;>omega
theorem aaX(a)(hs:sT a.1.1):f141 a=some ((a.1.1.all dp&&decide (a.1.1.length<=6),()),()):=by
 obtain⟨⟨ns,u⟩,cn⟩:=a;obtain⟨hl,hn⟩:=hs;have hl:ns.length<=2097152:=hl;have key:FK ((ns,((0:Int),())),())=some (bif allI (fun _ n=>dp n) 0 ns then .inr ((ns,()),()) else .inl ((false,()),())):=by
  refine gY zf ns (fun i=>((ns,((i:Int),())),())) _ _ _ (fun i x hx=>?_) ?_
  ·have hi:=dd hx;have hw:aq i:=by unfold aq;omega
   have hb:=hn x (List.mem_of_getElem? hx);simp only[zf,cp hi,cond_true,b6,hx,Option.bind_some];rw[Nt _ hb.1 hb.2];simp only[Option.bind_some,b0 hw];cases dp x<;>rfl
  ·simp only[zf,dM,cond_false]
 rw[gC] at key;simp only[f141,key,Option.bind_some];cases List.all ns dp with
 |false=>rfl
 |true=>have:=A0 ns.length 6;simp only[cond_true,Bool.true_and];rw[<-this];rfl
theorem aa6(a)(hs:sT a.1.1):Al a=some ((a.1.1.all dp,()),()):=by
 obtain⟨⟨ns,u⟩,cn⟩:=a;obtain⟨hl,hn⟩:=hs;have hl:ns.length<=2097152:=hl;have key:Du (((),(ns,((ns.length:Int),((0:Int),())))),())=some (bif allI (fun _ n=>dp n) 0 ns then .inr ((),()) else .inl ((false,()),())):=by
  refine gY xK ns (fun i=>(((),(ns,((ns.length:Int),((i:Int),())))),())) _ _ _ (fun i x hx=>?_) ?_
  ·have hi:=dd hx;have hw:aq i:=by unfold aq;omega
   have hb:=hn x (List.mem_of_getElem? hx);simp only[xK,cp hi,cond_true,b6,hx,Option.bind_some];rw[xk _ hb.1 hb.2];simp only[Option.bind_some,b0 hw];cases dp x<;>rfl
  ·simp only[xK,dM,cond_false]
 rw[gC] at key;simp only[Al,key,Option.bind_some];cases List.all ns dp<;>rfl
def jt:List F->List F->Bool
 |_,[]=>false
 |acc,x::r=>acc.contains x||jt (acc++[x]) r
theorem aeh(xs:List F):∀(r:List F) (k:Nat),r=xs.drop k->allI (fun i x=>!((xs.take i).contains x)) k r=!jt (xs.take k) r:=by
 intro r;induction r with
 |nil=>intro k _;rfl
 |cons x r ih=>
  intro k hr;have dk:r=xs.drop (k+1):=by
   have:=congrArg List.tail hr;simpa using this
  have hx:xs[k]? =some x:=by
   have:=congrArg (fun l=>l[0]?) hr
   simpa using this.symm
  have e1:xs.take (k+1)=xs.take k++[x]:=by rw[List.take_add_one,hx];rfl
  simp only[allI,jt,ih (k+1) dk,e1,Bool.not_or]
theorem agr(bd:List F)(x:F):bd.all (fun y=>!(y==x))=!bd.contains x:=by
 induction bd with
 |nil=>rfl
 |cons y bd ih=>
  simp only[List.all_cons,ih,List.contains_cons,Bool.not_or];congr 2
  cases h:y==x with
  |true=>rw[eq_of_beq h];simp
  |false=>
   cases h2:x==y with
   |true=>rw[eq_of_beq h2] at h;simp at h
   |false=>rfl
theorem aaW(a)(hs:cZ a.1.1.length):f142 a=some ((jt [] a.1.1,()),()):=by
 obtain⟨⟨xs,u⟩,cn⟩:=a;have hs:xs.length<=2097152:=hs;have inner:∀(i:Nat) (x:F),xs[i]? =some x->Do ((xs,((i:Int),((0:Int),()))),())=some (bif !((xs.take i).contains x) then .inr ((xs,((i:Int),())),()) else .inl ((true,()),())):=by
  intro i x hx;have hi:=dd hx;have hl:(xs.take i).length=i:=by rw[List.length_take];omega
  have:=gY xF (xs.take i) (fun k=>((xs,((i:Int),((k:Int),()))),())) (fun _ y=>!(y==x)) (.inl ((true,()),())) (.inr ((xs,((i:Int),())),())) (fun k y hy=>?_) ?_
  ·have:=this;rw[gC,agr] at this;exact this
  ·have hk:=dd hy;rw[hl] at hk;have hw:aq k:=by unfold aq;omega
   have dU:xs[k]? =some y:=by
    rw[List.getElem?_take,if_pos hk] at hy;exact hy
   simp only[xF,cp hk,cond_true,b6,dU,hx,Option.bind_some,b0 hw];cases (y==x)<;>rfl
  ·simp only[xF,hl,dM,cond_false]
 have key:FJ ((xs,((0:Int),())),())=some (bif allI (fun i x=>!((xs.take i).contains x)) 0 xs then .inr ((),()) else .inl ((true,()),())):=by
  refine gY ze xs (fun i=>((xs,((i:Int),())),())) _ _ _ (fun i x hx=>?_) ?_
  ·have hi:=dd hx;have hw:aq i:=by unfold aq;omega
   simp only[ze,cp hi,cond_true,inner i x hx,Option.bind_some];cases (xs.take i).contains x
   ·simp only[Bool.not_false,cond_true,b0 hw]
   ·rfl
  ·simp only[ze,dM,cond_false]
 rw[aeh xs xs 0 rfl] at key;simp only[f142,key,Option.bind_some,List.take_zero];cases jt [] xs<;>rfl
def pN(name:F)(ns:List bB):Bool:=ns.all dp&&decide (ns.length<=6)&&!jt [] (name::ns.map (·.name))
theorem aaV(a)(hs:sT a.1.2.1)(hn:cZ a.1.1.length):f89 a=some ((pN a.1.1 a.1.2.1,()),()):=by
 obtain⟨⟨name,ns,u⟩,cn⟩:=a;have hl:ns.length<=2097152:=hs.1;have key:GI ((ns,((),((0:Int),()))),(([name]:List F),()))=some (((ns,((),())),((name::ns.map (·.name)),()))):=by
  have:=ab8 z' ns (fun i (out:List F)=>((ns,((),((i:Int),()))),(out,()))) (fun(n:bB) out=>out++[n.name]) (fun out=>(((ns,((),())),(out,())):ay zA)) (fun i out=>out.length=i+1) [name] rfl (fun i x out hx dl=>?_) (fun out _=>?_)
  ·refine this.trans ?_
   have e:∀(r:List bB) (out:List F),r.foldl (fun s x=>s++[x.name]) out=out++r.map (·.name):=by
    intro r;induction r with
    |nil=>intro out;simp
    |cons n r ih=>intro out;simp[ih]
   rw[e];rfl
  ·have hi:=dd hx;have hw:aq i:=by unfold aq;omega
   refine⟨?_,by simp[dl]⟩
   simp only[z',cp hi,cond_true,b6,hx,Option.bind_some];rw[dZ (by decide) (by unfold aq;simp only[List.length_cons,List.length_nil];omega)]
   simp only[Option.bind_some,b0 hw]
  ·simp only[z',dM,cond_false]
 simp only[f89,key,Option.bind_some];rw[aaX _ hs];simp only[Option.bind_some];unfold pN;cases ar:(List.all ns dp&&decide (ns.length<=6)) with
 |false=>rfl
 |true=>
  simp only[Bool.and_eq_true,decide_eq_true_eq] at ar;have arE:=aaW ((name::ns.map (·.name),()),()) (show(name::ns.map (·.name)).length<=2097152 by simp only[List.length_cons,List.length_map];omega)
  simp only[cond_true,Bool.true_and,arE,Option.bind_some]
theorem aeI(a)(hs:cZ a.1.1.length):∃n:Int,f197 a=some ((n,()),())/\decide (n>=0)=a.1.1.contains a.1.2.1:=by
 obtain⟨⟨xs,x,u⟩,cn⟩:=a;have hs:xs.length<=2097152:=hs;have key:FA ((xs,(x,((xs.length:Int),((0:Int),())))),())=_:=Dk y5 xs (fun i (_:Unit)=>((xs,(x,((xs.length:Int),((i:Int),())))),()))
  (fun i y _=>some (bif x==y then .inr ((.inl (((i:Int),()),())):ay rF) else .inl ())) (fun _=>.inr ((),())) (fun i y s hy=>?_) (fun s=>?_) ()
 ·have fold:∀(r:List F) (k:Nat),∃n:Int,(eI (fun i y (_:Unit)=>some (bif x==y then .inr ((.inl (((i:Int),()),())):ay rF) else .inl ())) (fun _=>(.inr ((),()):ay rF)) k r ()).bind (fun akA=>
    (match akA with
    |.inl akz=>some ((akz.1.1,()),())
    |.inr asT=>some ((((-1):Int),()),()):Option Hw.J))=some ((n,()),())/\decide (n>=0)=r.contains x:=by
   intro r;induction r with
   |nil=>intro k;exact⟨-1,rfl,rfl⟩
   |cons y r ih=>
    intro k;simp only[eI,List.contains_cons];cases hxy:x==y with
    |true=>exact⟨k,rfl,by simp⟩
    |false=>
     obtain⟨n,h1,h2⟩:=ih (k+1);exact⟨n,h1,by simpa using h2⟩
  obtain⟨n,h1,h2⟩:=fold xs 0;refine⟨n,?_,h2⟩;simp only[f197];rw[key];exact h1
 ·have hi:=dd hy;have hw:aq i:=by unfold aq;omega
  simp only[y5,cp hi,cond_true,b6,hy,Option.bind_some,b0 hw];cases x==y<;>rfl
 ·simp only[y5,dM,cond_false]
theorem _1(a)(hs:cZ a.1.1.length):f150 a=some ((a.1.1.contains a.1.2.1,()),()):=by
 obtain⟨n,h1,h2⟩:=aeI ((a.1.1,(a.1.2.1,())),()) hs;simp only[f150,h1,Option.bind_some,h2]
theorem acU(a)(hs:cZ a.1.1.length):f149 a=some (((),()),(a.1.1,())):=by
 obtain⟨⟨xs,u⟩,cn⟩:=a;have hs:xs.length<=2097152:=hs;have h2:(cy 16 ([]:List F) xs).bind (fun x=>some (((),()),(x,())))=(some (((),()),(xs,())):Option Hz.J):=by
  rw[dZ (by decide) (by unfold aq;simp only[List.length_nil];omega)];rfl
 simp only[f149];rw[h2];unfold pu;split
 ·rfl
 ·rename_i h;exact absurd (fun he:xs=[]=>by subst he;rfl) h
theorem Zs(a)(hs:sT a.1.1)(hm:a.1.2.2.1.length<=1):Ak a=some ((jt a.1.2.2.1 (a.1.1.map (·.name)),()),()):=by
 obtain⟨⟨ns,atB,more,u⟩,cn⟩:=a;have hl:ns.length<=2097152:=hs.1;have hm:more.length<=1:=hm;have hc:=acU ((more,()),()) (show more.length<=2097152 by omega)
 have key:(Dt (((),((),(ns,((ns.length:Int),((0:Int),()))))),(more,())))=_:=ly xJ ns (fun i (out:List F)=>(((),((),(ns,((ns.length:Int),((i:Int),()))))),(out,())))
  (fun i (n:bB) out=>some (bif out.contains n.name then .inr ((.inl ((true,()),())):ay rl) else .inl (out++[n.name]))) (fun _=>.inr ((),())) (fun i out=>out.length<=i+1) more (by omega) (fun i x out hx dl=>?_) (fun out _=>?_)
 ·have fold:∀(r:List bB) (k:Nat) (out:List F),(eI (fun i (n:bB) out=>some (bif out.contains n.name then .inr ((.inl ((true,()),())):ay rl) else .inl (out++[n.name]))) (fun _=>(.inr ((),()):ay rl)) k r out)=
    some (bif jt out (r.map (·.name)) then .inl ((true,()),()) else .inr ((),())):=by
   intro r;induction r with
   |nil=>intro k out;rfl
   |cons n r ih=>
    intro k out;simp only[eI,List.map_cons,jt];cases out.contains n.name with
    |true=>rfl
    |false=>simp only[cond_false,Bool.false_or];exact ih _ _
  rw[fold] at key;simp only[Ak,hc,Option.bind_some,key];cases jt more (ns.map (·.name))<;>rfl
 ·have hi:=dd hx;have hw:aq i:=by unfold aq;omega
  refine⟨?_,fun aG af=>?_⟩
  ·simp only[xJ,cp hi,cond_true,b6,hx,Option.bind_some,f104];rw[_1 _ (show cZ out.length by show out.length<=2097152;omega)]
   simp only[Option.bind_some];cases ar:out.contains x.name with
   |true=>rfl
   |false=>
    simp only[cond_false];rw[dZ (by decide) (by unfold aq;simp only[List.length_cons,List.length_nil];omega)]
    simp only[Option.bind_some,b0 hw,Option.map_some]
  ·simp only[Option.some.injEq] at af;cases ar:out.contains x.name with
   |true=>rw[ar] at af;cases af
   |false=>
    rw[ar] at af;simp only[cond_false,Sum.inl.injEq] at af;subst af;simp only[List.length_append,List.length_cons,List.length_nil];omega
 ·simp only[xJ,dM,cond_false]
abbrev i146:Shape:=⟨[(0,.ak (.d (.int .u8)))],[],29⟩
abbrev S8:Shape:=⟨[au 2],[],29⟩
noncomputable def f146(a:i146.J):Option S8.J:=
 bif(decide (a.1.1>=(97:Int))) then
 bif(!(decide (a.1.1<=(122:Int)))) then
 bif(decide (a.1.1>=(48:Int))) then
 bif(!(decide (a.1.1<=(57:Int)))) then
 bif(!(a.1.1==(46:Int))) then
 bif(!(a.1.1==(95:Int))) then
 some (((a.1.1==(45:Int)),()),())
else
 some ((true,()),())
else
 some ((true,()),())
else
 some ((true,()),())
else
 bif(!(a.1.1==(46:Int))) then
 bif(!(a.1.1==(95:Int))) then
 some (((a.1.1==(45:Int)),()),())
else
 some ((true,()),())
else
 some ((true,()),())
else
 some ((true,()),())
else
 bif(decide (a.1.1>=(48:Int))) then
 bif(!(decide (a.1.1<=(57:Int)))) then
 bif(!(a.1.1==(46:Int))) then
 bif(!(a.1.1==(95:Int))) then
 some (((a.1.1==(45:Int)),()),())
else
 some ((true,()),())
else
 some ((true,()),())
else
 some ((true,()),())
else
 bif(!(a.1.1==(46:Int))) then
 bif(!(a.1.1==(95:Int))) then
 some (((a.1.1==(45:Int)),()),())
else
 some ((true,()),())
else
 some ((true,()),())
noncomputable def U2:aH:=aP aj Tryz.f146 i146 S8 [] f146
theorem z146:aF U 146 U2:=aS g0 Tryz.func146 (by kernel_rfl) ag (fun y=>by kernel_rfl) fun a=>by kernel_rfl
noncomputable abbrev aqs:bh:=[(75,nZ),(146,U2)]
theorem XT:a7 U (bg aj aqs):=bf ⟨z75,z146,⟨⟩⟩
abbrev zE:Shape:=⟨[ao 0,ae 3],[],26⟩
abbrev Gi:List aO:=[(.ret,⟨[au 2],[],26⟩),(.exit 0,⟨[ao 0],[],26⟩)]
noncomputable def z7(y:zE.J):bQ zE Gi:=
 bif(decide (y.1.2.1<(y.1.1.length:Int))) then
(aU y.1.1 y.1.2.1).bind fun a=>
(f146 (((a.toNat:Int),()),())).bind fun b=>
 bif(!b.1.1) then
 some (.inr (.inl ((false,()),())))
else
 some (.inl ((y.1.1,(IntKind.i64.wrap (y.1.2.1+(1:Int))),()),()))
else
 some (.inr (.inr ((y.1.1,()),())))
noncomputable def GF:zE.J->Option (ay Gi):=bx z7
theorem ag0:aW U (an (codeOf Tryz.f91) 1 26) (a_ zE Gi GF):=bR XT (by kernel_rfl) ag fun y=>by kernel_rfl
abbrev i91:Shape:=⟨[ao 0],[],26⟩
abbrev V6:Shape:=⟨[au 2],[],26⟩
noncomputable def f91(a:i91.J):Option V6.J:=
(GF ((a.1.1,(0:Int),()),())).bind fun b=>
(match b with
|.inl c=>
 some ((c.1.1,()),())
|.inr d=>
(f75 (((d.1.1.length:Int),(1:Int),(10:Int),()),())).bind fun e=>
 bif e.1.1 then
 bif(!(d.1.1==([46]:F))) then
 some (((!(d.1.1==([46,46]:F))),()),())
else
 some ((false,()),())
else
 some ((false,()),()))
noncomputable def Xs:aH:=aP aj Tryz.f91 i91 V6 [] f91
theorem z91:aF U 91 Xs:=aS XT Tryz.func91 (by kernel_rfl) (a' ag0 ag) (fun y=>by kernel_rfl) fun a=>by kernel_rfl
noncomputable abbrev alU:bh:=[(73,to),(91,Xs)]
theorem Vv:a7 U (bg aj alU):=bf ⟨vC,z91,⟨⟩⟩
abbrev yx:Shape:=⟨[bc 3 3000192,ae 4],[bb 3000192 .str 3 0],25⟩
abbrev EZ:List aO:=[(.ret,⟨[au 2],[],25⟩),(.exit 0,⟨[bc 3 3000192],[bb 3000192 .str 3 0],25⟩)]
noncomputable def y8(y:yx.J):bQ yx EZ:=
 bif(decide (y.1.2.1<(y.2.1.length:Int))) then
(a6 y.2.1.length y.1.2.1).bind fun a=>
(y.2.1[a]?).bind fun b=>
(f91 ((b,()),())).bind fun c=>
 bif(!c.1.1) then
 some (.inr (.inl ((false,()),())))
else
 some (.inl (((),(IntKind.i64.wrap (y.1.2.1+(1:Int))),()),y.2.1,()))
else
 some (.inr (.inr (((),()),y.2.1,())))
noncomputable def FD:yx.J->Option (ay EZ):=bx y8
theorem afe:aW U (an (codeOf Tryz.f193) 1 58) (a_ yx EZ FD):=bR Vv (by kernel_rfl) ag fun y=>by kernel_rfl
abbrev i193:Shape:=⟨[ao 0],[],25⟩
abbrev SF:Shape:=⟨[au 2],[],25⟩
noncomputable def f193(a:i193.J):Option SF.J:=
(f73 ((a.1.1,(47:Int),(IntKind.i64.wrap ((a.1.1.length:Int)+(1:Int))),()),())).bind fun b=>
(FD (((),(0:Int),()),b.2.1,())).bind fun c=>
(match c with
|.inl d=>
 some ((d.1.1,()),())
|.inr e=>
 some (((decide ((e.2.1.length:Int)<=(5:Int))),()),()))
noncomputable def UB:aH:=aP aj Tryz.f193 i193 SF [] f193
theorem z193:aF U 193 UB:=aS Vv Tryz.func193 (by kernel_rfl) (a' afe ag) (fun y=>by kernel_rfl) fun a=>by kernel_rfl
noncomputable abbrev aqr:bh:=[(75,nZ)]
theorem J0:a7 U (bg aj aqr):=bf ⟨z75,⟨⟩⟩
abbrev OP:Shape:=⟨[ao 0,ae 3],[],25⟩
abbrev Ow:List aO:=[(.norm,⟨[ao 0,ae 3,au 21],[],25⟩)]
noncomputable def FV(y:OP.J):Option (ay Ow):=
(aU y.1.1 y.1.2.1).bind fun a=>
 bif((a.toNat:Int) !=(10:Int)) then
(aU y.1.1 y.1.2.1).bind fun b=>
(f75 (((IntKind.i64.wrap (b.toNat:Int)),(32:Int),(126:Int),()),())).bind fun c=>
 some ((y.1.1,y.1.2.1,(!c.1.1),()),())
else
 some ((y.1.1,y.1.2.1,false,()),())
theorem aeQ:aW U (an (c8 (an (codeOf Tryz.f92) 1 26)) 52 840) (a_ OP Ow FV):=cS J0 (by kernel_rfl) ag fun y=>by kernel_rfl
abbrev zD:Shape:=⟨[ao 0,ae 3],[],25⟩
abbrev Gh:List aO:=[(.ret,⟨[au 2],[],25⟩),(.exit 0,⟨[ao 0],[],25⟩)]
noncomputable def z6(y:zD.J):bQ zD Gh:=
 bif(decide (y.1.2.1<(y.1.1.length:Int))) then
(FV ((y.1.1,y.1.2.1,()),())).bind fun a=>
 bif a.1.2.2.1 then
 some (.inr (.inl ((false,()),())))
else
 some (.inl ((a.1.1,(IntKind.i64.wrap (a.1.2.1+(1:Int))),()),()))
else
 some (.inr (.inr ((y.1.1,()),())))
noncomputable def GD:zD.J->Option (ay Gh):=bx z6
theorem agZ:aW U (an (codeOf Tryz.f92) 1 26) (a_ zD Gh GD):=bR J0 (by kernel_rfl) (a' aeQ ag) fun y=>by kernel_rfl
abbrev i92:Shape:=⟨[ao 0],[],25⟩
abbrev V5:Shape:=⟨[au 2],[],25⟩
noncomputable def f92(a:i92.J):Option V5.J:=
(GD ((a.1.1,(0:Int),()),())).bind fun b=>
(match b with
|.inl c=>
 some ((c.1.1,()),())
|.inr d=>
 some (((decide ((d.1.1.length:Int)<=(80:Int))),()),()))
noncomputable def Xr:aH:=aP aj Tryz.f92 i92 V5 [] f92
theorem anj:aF U 92 Xr:=aS J0 Tryz.func92 (by kernel_rfl) (a' agZ ag) (fun y=>by kernel_rfl) fun a=>by kernel_rfl
noncomputable abbrev ami:bh:=[(75,nZ),(92,Xr),(193,UB)]
theorem am7:a7 U (bg aj ami):=bf ⟨z75,anj,z193,⟨⟩⟩
abbrev i143:Shape:=⟨[cB 0 [ai,bo,bo,ai]],[],42⟩
abbrev S':Shape:=⟨[au 2],[],42⟩
noncomputable def f143(a:i143.J):Option S'.J:=
(f193 ((a.1.1.1,()),())).bind fun b=>
 bif(!b.1.1) then
 some ((false,()),())
else
 bif(a.1.1.2.1==(1:Int)) then
(f75 ((a.1.1.2.2.1,(0:Int),(7:Int),()),())).bind fun c=>
 bif c.1.1 then
 some (((a.1.1.2.2.2.1==([]:F)),()),())
else
 some ((false,()),())
else
 bif(a.1.1.2.1==(2:Int)) then
(f75 ((a.1.1.2.2.1,(0:Int),(7:Int),()),())).bind fun d=>
 bif d.1.1 then
(f92 ((a.1.1.2.2.2.1,()),())).bind fun e=>
 some ((e.1.1,()),())
else
 some ((false,()),())
else
 bif(a.1.1.2.1==(3:Int)) then
 bif(a.1.1.2.2.1==(0:Int)) then
(f193 ((a.1.1.2.2.2.1,()),())).bind fun f=>
 some ((f.1.1,()),())
else
 some ((false,()),())
else
 some ((false,()),())
noncomputable def U5:aH:=aP aj Tryz.f143 i143 S' [] f143
theorem z143:aF U 143 U5:=aS am7 Tryz.func143 (by kernel_rfl) ag (fun y=>by kernel_rfl) fun a=>by kernel_rfl
abbrev i231:Shape:=⟨[(0,.ak (.d (.int .u8)))],[],29⟩
abbrev Sj:Shape:=⟨[au 2],[],29⟩
noncomputable def f231(a:i231.J):Option Sj.J:=
 bif(decide (a.1.1>=(97:Int))) then
 bif(!(decide (a.1.1<=(122:Int)))) then
 bif(decide (a.1.1>=(48:Int))) then
 bif(!(decide (a.1.1<=(57:Int)))) then
 bif(!(a.1.1==(46:Int))) then
 bif(!(a.1.1==(95:Int))) then
 some (((a.1.1==(45:Int)),()),())
else
 some ((true,()),())
else
 some ((true,()),())
else
 some ((true,()),())
else
 bif(!(a.1.1==(46:Int))) then
 bif(!(a.1.1==(95:Int))) then
 some (((a.1.1==(45:Int)),()),())
else
 some ((true,()),())
else
 some ((true,()),())
else
 some ((true,()),())
else
 bif(decide (a.1.1>=(48:Int))) then
 bif(!(decide (a.1.1<=(57:Int)))) then
 bif(!(a.1.1==(46:Int))) then
 bif(!(a.1.1==(95:Int))) then
 some (((a.1.1==(45:Int)),()),())
else
 some ((true,()),())
else
 some ((true,()),())
else
 some ((true,()),())
else
 bif(!(a.1.1==(46:Int))) then
 bif(!(a.1.1==(95:Int))) then
 some (((a.1.1==(45:Int)),()),())
else
 some ((true,()),())
else
 some ((true,()),())
noncomputable def Uk:aH:=aP aj Tryz.f231 i231 Sj [] f231
theorem ajv:aF U 231 Uk:=aS g0 Tryz.func231 (by kernel_rfl) ag (fun y=>by kernel_rfl) fun a=>by kernel_rfl
noncomputable abbrev alT:bh:=[(231,Uk)]
theorem Vu:a7 U (bg aj alT):=bf ⟨ajv,⟨⟩⟩
abbrev yv:Shape:=⟨[ao 0,ae 5,ae 6],[],17⟩
abbrev EY:List aO:=[(.ret,⟨[au 2],[],17⟩),(.exit 0,⟨[ao 0],[],17⟩)]
noncomputable def y6(y:yv.J):bQ yv EY:=
 bif(decide (y.1.2.2.1<y.1.2.1)) then
(aU y.1.1 y.1.2.2.1).bind fun a=>
(f231 (((a.toNat:Int),()),())).bind fun b=>
 bif(!b.1.1) then
 some (.inr (.inl ((false,()),())))
else
 some (.inl ((y.1.1,y.1.2.1,(IntKind.i64.wrap (y.1.2.2.1+(1:Int))),()),()))
else
 some (.inr (.inr ((y.1.1,()),())))
noncomputable def FB:yv.J->Option (ay EY):=bx y6
theorem afc:aW U (an (codeOf Tryz.f195) 1 26) (a_ yv EY FB):=bR Vu (by kernel_rfl) ag fun y=>by kernel_rfl
abbrev i195:Shape:=⟨[ao 0],[],17⟩
abbrev SD:Shape:=⟨[au 2],[],17⟩
noncomputable def f195(a:i195.J):Option SD.J:=
(FB ((a.1.1,(a.1.1.length:Int),(0:Int),()),())).bind fun b=>
(match b with
|.inl c=>
 some ((c.1.1,()),())
|.inr d=>
 some (((!(d.1.1==([]:F))),()),()))
noncomputable def UA:aH:=aP aj Tryz.f195 i195 SD [] f195
theorem ajG:aF U 195 UA:=aS Vu Tryz.func195 (by kernel_rfl) (a' afc ag) (fun y=>by kernel_rfl) fun a=>by kernel_rfl
noncomputable abbrev amg:bh:=[(195,UA)]
theorem am5:a7 U (bg aj amg):=bf ⟨ajG,⟨⟩⟩
abbrev i147:Shape:=⟨[ao 0],[],18⟩
abbrev S7:Shape:=⟨[au 2],[],18⟩
noncomputable def f147(a:i147.J):Option S7.J:=
 bif(decide ((a.1.1.length:Int)<=(10:Int))) then
 bif(!(a.1.1==([46]:F))) then
 bif(!(a.1.1==([46,46]:F))) then
(f195 ((a.1.1,()),())).bind fun b=>
 some ((b.1.1,()),())
else
 some ((false,()),())
else
 some ((false,()),())
else
 some ((false,()),())
noncomputable def U1:aH:=aP aj Tryz.f147 i147 S7 [] f147
theorem ajY:aF U 147 U1:=aS am5 Tryz.func147 (by kernel_rfl) ag (fun y=>by kernel_rfl) fun a=>by kernel_rfl
abbrev i196:Shape:=⟨[(0,.ak (.d (.int .u8)))],[],9⟩
abbrev SC:Shape:=⟨[au 2],[],9⟩
noncomputable def f196(a:i196.J):Option SC.J:=
 bif(decide (a.1.1>=(32:Int))) then
 some (((decide (a.1.1<=(126:Int))),()),())
else
 some ((false,()),())
noncomputable def Uz:aH:=aP aj Tryz.f196 i196 SC [] f196
theorem z196:aF U 196 Uz:=aS g0 Tryz.func196 (by kernel_rfl) ag (fun y=>by kernel_rfl) fun a=>by kernel_rfl
noncomputable abbrev amf:bh:=[(196,Uz)]
theorem Iu:a7 U (bg aj amf):=bf ⟨z196,⟨⟩⟩
abbrev ML:Shape:=⟨[ao 0,ae 3,ae 8,ae 9],[],24⟩
abbrev Mt:List aO:=[(.norm,⟨[ao 0,ae 8,ae 9,au 22],[],24⟩)]
noncomputable def DB(y:ML.J):Option (ay Mt):=
(aU y.1.1 y.1.2.1).bind fun a=>
(f196 (((a.toNat:Int),()),())).bind fun b=>
 bif(!b.1.1) then
(aU y.1.1 y.1.2.1).bind fun c=>
 some ((y.1.1,y.1.2.2.1,y.1.2.2.2.1,((c.toNat:Int) !=(10:Int)),()),())
else
 some ((y.1.1,y.1.2.2.1,y.1.2.2.2.1,false,()),())
theorem abK:aW U (an (c8 (an (codeOf Tryz.f148) 1 58)) 116 7474) (a_ ML Mt DB):=cS Iu (by kernel_rfl) ag fun y=>by kernel_rfl
abbrev yD:Shape:=⟨[ao 0,ae 8,ae 9],[],24⟩
abbrev E5:List aO:=[(.ret,⟨[au 2],[],24⟩),(.exit 0,⟨[],[],24⟩)]
noncomputable def zd(y:yD.J):bQ yD E5:=
 bif(decide (y.1.2.2.1<y.1.2.1)) then
(DB ((y.1.1,y.1.2.2.1,y.1.2.1,y.1.2.2.1,()),())).bind fun a=>
 bif a.1.2.2.2.1 then
 some (.inr (.inl ((false,()),())))
else
 some (.inl ((a.1.1,a.1.2.1,(IntKind.i64.wrap (a.1.2.2.1+(1:Int))),()),()))
else
 some (.inr (.inr ((),())))
noncomputable def FH:yD.J->Option (ay E5):=bx zd
theorem afr:aW U (an (codeOf Tryz.f148) 1 58) (a_ yD E5 FH):=bR Iu (by kernel_rfl) (a' abK ag) fun y=>by kernel_rfl
abbrev i148:Shape:=⟨[ao 0],[],24⟩
abbrev S6:Shape:=⟨[au 2],[],24⟩
noncomputable def f148(a:i148.J):Option S6.J:=
 bif(decide ((a.1.1.length:Int)>(80:Int))) then
 some ((false,()),())
else
(FH ((a.1.1,(a.1.1.length:Int),(0:Int),()),())).bind fun b=>
(match b with
|.inl c=>
 some ((c.1.1,()),())
|.inr d=>
 some ((true,()),()))
noncomputable def U0:aH:=aP aj Tryz.f148 i148 S6 [] f148
theorem z148:aF U 148 U0:=aS Iu Tryz.func148 (by kernel_rfl) (a' afr ag) (fun y=>by kernel_rfl) fun a=>by kernel_rfl
noncomputable abbrev alS:bh:=[(147,U1)]
theorem Iq:a7 U (bg aj alS):=bf ⟨ajY,⟨⟩⟩
abbrev NR:Shape:=⟨[aM 2 2 0,aM 3 3 0,ao 4],[aL 2 [lp],aL 3 [bo]],17⟩
abbrev ND:List aO:=[(.norm,⟨[aM 2 2 0,aM 3 3 0,au 16],[aL 2 [lp],aL 3 [bo]],17⟩)]
noncomputable def Ez(y:NR.J):Option (ay ND):=
 bif(!(decide (y.2.2.1.1>(5:Int)))) then
(f147 ((y.1.2.2.1,()),())).bind fun a=>
 some (((),(),(!a.1.1),()),(y.2.1.1,()),(y.2.2.1.1,()),())
else
 some (((),(),true,()),(y.2.1.1,()),(y.2.2.1.1,()),())
theorem adv:aW U (an (jL (an (codeOf Tryz.f199) 1 58)) 117 938) (a_ NR ND Ez):=cS Iq (by kernel_rfl) ag fun y=>by kernel_rfl
abbrev yt:Shape:=⟨[aM 2 2 0,aM 3 3 0],[aL 2 [lp],aL 3 [bo]],17⟩
abbrev EX:List aO:=[(.norm,⟨[aM 2 2 0],[aL 2 [lp]],17⟩),(.ret,⟨[aM 2 2 0],[aL 2 [lp]],17⟩)]
noncomputable def rP(x:F)(y:yt.J):bQ yt EX:=
(Ez (((),(),x,()),(y.2.1.1,()),((IntKind.i64.wrap (y.2.2.1.1+(1:Int))),()),())).bind fun a=>
 bif a.1.2.2.1 then
 some (.inr (.inr (((),()),(false,()),())))
else
 some (.inl (((),(),()),(a.2.1.1,()),(a.2.2.1.1,()),()))
noncomputable def ut(y:yt.J):Option (ay EX):=
 some (.inl (((),()),(y.2.1.1,()),()))
theorem afa:aW U (an (codeOf Tryz.f199) 1 58) (rz 266 6 yt EX rP ut):=Lw (eL:=7) Iq Rn (by kernel_rfl) (a' adv ag) (by kernel_rfl) (fun x y=>by kernel_rfl) fun y=>by kernel_rfl
abbrev i199:Shape:=⟨[ao 0],[],17⟩
abbrev SB:Shape:=⟨[aM 2 2 0],[aL 2 [lp]],17⟩
noncomputable def f199(a:i199.J):Option SB.J:=
(bif Nat.ble a.1.1.length j' then ie rP ut (bJ (47:UInt8) a.1.1) (((),(),()),(false,()),((0:Int),()),()) else none).bind fun b=>
(match b with
|.inl c=>
 some (((),()),(true,()),())
|.inr d=>
 some (((),()),(d.2.1.1,()),()))
noncomputable def If:aH:=aP aj Tryz.f199 i199 SB [] f199
theorem RN:aF U 199 If:=aS Iq Tryz.func199 (by kernel_rfl) (a' afa ag) (fun y=>by kernel_rfl) fun a=>by kernel_rfl
noncomputable abbrev amc:bh:=[(148,U0),(199,If)]
theorem VA:a7 U (bg aj amc):=bf ⟨z148,RN,⟨⟩⟩
abbrev O3:Shape:=⟨[aM 1 1 0],[aL 1 [ai,bo,bo,ai]],39⟩
abbrev OK:List aO:=[(.norm,⟨[aM 1 1 0,au 16],[aL 1 [ai,bo,bo,ai]],39⟩)]
noncomputable def F6(y:O3.J):Option (ay OK):=
(f199 ((y.2.1.1,()),())).bind fun a=>
 bif(!(!a.2.1.1)) then
 bif(!(decide (y.2.1.2.2.1<(0:Int)))) then
 some (((),(decide (y.2.1.2.2.1>(7:Int))),()),(y.2.1.1,y.2.1.2.1,y.2.1.2.2.1,y.2.1.2.2.2.1,()),())
else
 some (((),true,()),(y.2.1.1,y.2.1.2.1,y.2.1.2.2.1,y.2.1.2.2.2.1,()),())
else
 some (((),true,()),(y.2.1.1,y.2.1.2.1,y.2.1.2.2.1,y.2.1.2.2.2.1,()),())
theorem afp:aW U (an (codeOf Tryz.f152) 1 12) (a_ O3 OK F6):=cS VA (by kernel_rfl) ag fun y=>by kernel_rfl
abbrev i152:Shape:=⟨[cB 0 [ai,bo,bo,ai]],[],39⟩
abbrev S3:Shape:=⟨[au 2],[],39⟩
noncomputable def f152(a:i152.J):Option S3.J:=
(F6 (((),()),(a.1.1.1,a.1.1.2.1,a.1.1.2.2.1,a.1.1.2.2.2.1,()),())).bind fun b=>
 bif b.1.2.1 then
 some ((false,()),())
else
 bif(b.2.1.2.1==(1:Int)) then
 some (((b.2.1.2.2.2.1==([]:F)),()),())
else
 bif(b.2.1.2.1==(2:Int)) then
(f148 ((b.2.1.2.2.2.1,()),())).bind fun c=>
 some ((c.1.1,()),())
else
 bif(b.2.1.2.1==(3:Int)) then
 bif(b.2.1.2.2.1==(0:Int)) then
(f199 ((b.2.1.2.2.2.1,()),())).bind fun d=>
 some ((d.2.1.1,()),())
else
 some ((false,()),())
else
 some ((false,()),())
noncomputable def UX:aH:=aP aj Tryz.f152 i152 S3 [] f152
theorem z152:aF U 152 UX:=aS VA Tryz.func152 (by kernel_rfl) (a' afp ag) (fun y=>by kernel_rfl) fun a=>by kernel_rfl
def jJ(n:Int):Bool:=(decide (97<=n)&&decide (n<=122))||(decide (48<=n)&&decide (n<=57))||n==46||n==95||n==45
theorem aa2(a):f146 a=some ((jJ a.1.1,()),()):=by
 obtain⟨⟨n,u⟩,cn⟩:=a;simp only[f146,jJ,ge_iff_le];generalize decide ((97:Int)<=n)=b1;generalize decide (n<=(122:Int))=b2;generalize decide ((48:Int)<=n)=b3;generalize decide (n<=(57:Int))=wN;generalize(n==(46:Int))=wM;generalize(n==(95:Int))=Kx;generalize(n==(45:Int))=Kw;cases b1<;>cases b2<;>cases b3<;>cases wN<;>cases wM<;>cases Kx<;>cases Kw<;>rfl
theorem _T(a):f231 a=some ((jJ a.1.1,()),()):=by
 obtain⟨⟨n,u⟩,cn⟩:=a;simp only[f231,jJ,ge_iff_le];generalize decide ((97:Int)<=n)=b1;generalize decide (n<=(122:Int))=b2;generalize decide ((48:Int)<=n)=b3;generalize decide (n<=(57:Int))=wN;generalize(n==(46:Int))=wM;generalize(n==(95:Int))=Kx;generalize(n==(45:Int))=Kw;cases b1<;>cases b2<;>cases b3<;>cases wN<;>cases wM<;>cases Kx<;>cases Kw<;>rfl
def jQ(s:F):Bool:=s.all (fun b=>jJ b.toNat)&&within s.length 1 10&&!(s==[46])&&!(s==[46,46])
theorem acP(a)(hs:cZ a.1.1.length):f91 a=some ((jQ a.1.1,()),()):=by
 obtain⟨⟨s,u⟩,cn⟩:=a;have hs:s.length<=2097152:=hs;have key:GF ((s,((0:Int),())),())=some (bif allI (fun _ b=>jJ b.toNat) 0 s then .inr ((s,()),()) else .inl ((false,()),())):=by
  refine gY z7 s (fun i=>((s,((i:Int),())),())) _ _ _ (fun i x hx=>?_) ?_
  ·have hi:=dd hx;have hw:aq i:=by unfold aq;omega
   simp only[z7,cp hi,cond_true,b6,hx,Option.bind_some,aa2,b0 hw];cases jJ x.toNat<;>rfl
  ·simp only[z7,dM,cond_false]
 rw[gC] at key;simp only[f91,key,Option.bind_some,jQ];cases List.all s (fun b=>jJ b.toNat) with
 |false=>rfl
 |true=>
  simp only[cond_true,nm,Option.bind_some,Bool.true_and];cases within (s.length:Int) 1 10<;>cases (s==[46])<;>rfl
theorem acH(a)(hs:cZ a.1.1.length):f147 a=some ((jQ a.1.1,()),()):=by
 obtain⟨⟨s,u⟩,cn⟩:=a;have hs:s.length<=2097152:=hs;have key:FB ((s,((s.length:Int),((0:Int),()))),())=some (bif allI (fun _ b=>jJ b.toNat) 0 s then .inr ((s,()),()) else .inl ((false,()),())):=by
  refine gY y6 s (fun i=>((s,((s.length:Int),((i:Int),()))),())) _ _ _ (fun i x hx=>?_) ?_
  ·have hi:=dd hx;have hw:aq i:=by unfold aq;omega
   simp only[y6,cp hi,cond_true,b6,hx,Option.bind_some,_T,b0 hw];cases jJ x.toNat<;>rfl
  ·simp only[y6,dM,cond_false]
 rw[gC] at key;have vY:f195 ((s,()),())=some ((List.all s (fun b=>jJ b.toNat)&&!(s==([]:F)),()),()):=by
  simp only[f195,key,Option.bind_some];cases List.all s (fun b=>jJ b.toNat)<;>rfl
 have h1:decide ((1:Int)<=(s.length:Int))=!(s==([]:F)):=by
  cases s with
  |nil=>rfl
  |cons b r=>
   have:((b::r)==([]:F))=false:=rfl;simp only[List.length_cons];rw[this];simp only[Bool.not_false,decide_eq_true_eq];omega
 simp only[f147,vY,Option.bind_some,jQ,within,h1];cases decide ((s.length:Int)<=10)<;>cases (s==[46])<;>cases (s==[46,46])<;>cases List.all s (fun b=>jJ b.toNat)<;>cases (s==([]:F))<;>rfl
def fT(s:F):Bool:=(bJ 47 s).all jQ&&decide ((bJ 47 s).length<=5)
theorem Nr(a)(hs:cZ a.1.1.length):f193 a=some ((fT a.1.1,()),()):=by
 obtain⟨⟨s,u⟩,cn⟩:=a;have hs:s.length<=2097152:=hs;have hlen:=rb 47 s;have fB:f73 ((s,((47:Int),((IntKind.i64.wrap ((s.length:Int)+(1:Int))),()))),())=some (((),()),(bJ 47 s,())):=
  Oq 47 _ hs rfl (b0 (by unfold aq;omega))
 have key:FD (((),((0:Int),())),(bJ 47 s,()))=some (bif allI (fun _ x=>jQ x) 0 (bJ 47 s) then .inr (((),()),(bJ 47 s,())) else .inl ((false,()),())):=by
  refine gY y8 (bJ 47 s) (fun i=>(((),((i:Int),())),(bJ 47 s,()))) _ _ _ (fun i x hx=>?_) ?_
  ·have hi:=dd hx;have hw:aq i:=by unfold aq;omega
   have hxl:x.length<=s.length:=w6 47 s x (List.mem_of_getElem? hx);simp only[y8,cp hi,cond_true,fS hi,hx,Option.bind_some];rw[acP _ (show x.length<=2097152 by omega)]
   simp only[Option.bind_some,b0 hw];cases jQ x<;>rfl
  ·simp only[y8,dM,cond_false]
 rw[gC] at key;simp only[f193,fB,Option.bind_some,key,fT];cases List.all (bJ 47 s) jQ with
 |false=>rfl
 |true=>have:=A0 (bJ 47 s).length 5;simp only[cond_true,Bool.true_and];rw[<-this];rfl
theorem DK(a)(hs:cZ a.1.1.length):f199 a=some (((),()),((fT a.1.1,()),())):=by
 obtain⟨⟨s,u⟩,cn⟩:=a;have hs:s.length<=2097152:=hs;have HY:Nat.ble s.length j'=true:=Nat.ble_eq_true_of_le (by unfold j';omega)
 have fold:∀(r:List F) (k:Nat),(∀x,x∈r->x.length<=s.length)->k<=5->
   ie rP ut r (((),((),())),((false,()),(((k:Int),()),())))=
    some (bif r.all jQ&&decide (k+r.length<=5) then(.inl (((),()),((false,()),()))) else(.inr (((),()),((false,()),())))):=by
  intro r;induction r with
  |nil=>
   intro k _ hk;have:decide (k+0<=5)=true:=by simpa using hk
   simp only[ie,ut,List.all_nil,List.length_nil,this,Bool.and_self,cond_true]
  |cons x r ih=>
   intro k hr hk;have hx:=hr x List.mem_cons_self;have ks:=acH ((x,()),()) (show x.length<=2097152 by omega)
   have hw:=b0 (i:=k) (by unfold aq;omega)
   have vZ:decide (((k+1:Nat):Int)>5)=!decide (k+1<=5):=by by_cases h:k+1<=5<;>simp only[h,decide_true,decide_false,Bool.not_true,Bool.not_false,decide_eq_true_eq,decide_eq_false_iff_not]<;>omega
   have step:rP x (((),((),())),((false,()),(((k:Int),()),())))=
     some (bif jQ x&&decide (k+1<=5) then .inl (((),((),())),((false,()),((((k+1:Nat):Int),()),()))) else .inr (.inr (((),()),((false,()),())))):=by
    simp only[rP,Ez,hw,vZ,Bool.not_not,ks,Option.bind_some];cases decide (k+1<=5) with
    |false=>cases jQ x<;>rfl
    |true=>cases jQ x<;>rfl
   rw[ie,step,List.all_cons];cases hn:jQ x with
   |false=>rfl
   |true=>
    simp only[Bool.true_and];cases ar:decide (k+1<=5) with
    |false=>
     have:decide (k+(x::r).length<=5)=false:=by simp only[decide_eq_false_iff_not,List.length_cons] at ar ⊢;omega
     rw[this];simp
    |true=>
     simp only[cond_true];rw[ih (k+1) (fun y hy=>hr y (List.mem_cons_of_mem _ hy)) (by simpa using ar)]
     have e1:k+1+r.length=k+(x::r).length:=by simp only[List.length_cons];omega
     rw[e1]
 have key:=fold (bJ (47:UInt8) s) 0 (fun x hx=>w6 47 s x hx) (Nat.zero_le _)
 have HH:ie rP ut (bJ (47:UInt8) s) (((),((),())),((false,()),(((0:Int),()),())))=some (bif fT s then(.inl (((),()),((false,()),()))) else(.inr (((),()),((false,()),())))):=by
  refine key.trans ?_
  unfold fT;rw[Nat.zero_add]
 simp only[f199,HY,cond_true,HH,Option.bind_some];cases fT s<;>rfl
def nn(s:F):Bool:=s.all (fun b=>(b.toNat:Int)==10||within b.toNat 32 126)&&decide (s.length<=80)
theorem aaQ(b:UInt8):IntKind.i64.wrap (b.toNat:Int)=(b.toNat:Int):=by
 have:=b.toNat_lt;rw[ed (by omega) (by omega)]
theorem acM(a)(hs:cZ a.1.1.length):f92 a=some ((nn a.1.1,()),()):=by
 obtain⟨⟨s,u⟩,cn⟩:=a;have hs:s.length<=2097152:=hs;have key:GD ((s,((0:Int),())),())=some (bif allI (fun _ b=>(b.toNat:Int)==10||within b.toNat 32 126) 0 s then .inr ((s,()),()) else .inl ((false,()),())):=by
  refine gY z6 s (fun i=>((s,((i:Int),())),())) _ _ _ (fun i x hx=>?_) ?_
  ·have hi:=dd hx;have hw:aq i:=by unfold aq;omega
   have hne:((x.toNat:Int) !=10)=!((x.toNat:Int)==10):=rfl;simp only[z6,cp hi,cond_true,FV,b6,hx,Option.bind_some,hne,nm,aaQ];cases ((x.toNat:Int)==10)<;>cases within (x.toNat:Int) 32 126<;>simp only[Bool.not_true,Bool.not_false,cond_true,cond_false,Option.bind_some,b0 hw,Bool.or_true,Bool.true_or,Bool.or_false]
  ·simp only[z6,dM,cond_false]
 rw[gC] at key;simp only[f92,key,Option.bind_some,nn];cases List.all s (fun b=>(b.toNat:Int)==10||within b.toNat 32 126) with
 |false=>rfl
 |true=>have:=A0 s.length 80;simp only[cond_true,Bool.true_and];rw[<-this];rfl
theorem Z1(a):f196 a=some ((within a.1.1 32 126,()),()):=by
 simp only[f196,within,ge_iff_le];cases decide ((32:Int)<=a.1.1)<;>rfl
theorem _Y(a)(hs:cZ a.1.1.length):f148 a=some ((nn a.1.1,()),()):=by
 obtain⟨⟨s,u⟩,cn⟩:=a;have hs:s.length<=2097152:=hs;have key:FH ((s,((s.length:Int),((0:Int),()))),())=some (bif allI (fun _ b=>(b.toNat:Int)==10||within b.toNat 32 126) 0 s then .inr ((),()) else .inl ((false,()),())):=by
  refine gY zd s (fun i=>((s,((s.length:Int),((i:Int),()))),())) _ _ _ (fun i x hx=>?_) ?_
  ·have hi:=dd hx;have hw:aq i:=by unfold aq;omega
   have hne:((x.toNat:Int) !=10)=!((x.toNat:Int)==10):=rfl;simp only[zd,cp hi,cond_true,DB,b6,hx,Option.bind_some,hne,Z1];cases ((x.toNat:Int)==10)<;>cases within (x.toNat:Int) 32 126<;>simp only[Bool.not_true,Bool.not_false,cond_true,cond_false,Option.bind_some,b0 hw,Bool.or_true,Bool.true_or,Bool.or_false]
  ·simp only[zd,dM,cond_false]
 rw[gC] at key;have apH:decide ((s.length:Int)>80)=!decide (s.length<=80):=by by_cases h:s.length<=80<;>simp only[h,decide_true,decide_false,Bool.not_true,Bool.not_false,decide_eq_true_eq,decide_eq_false_iff_not]<;>omega
 simp only[f148,key,Option.bind_some,nn,apH];cases decide (s.length<=80)<;>cases List.all s (fun b=>(b.toNat:Int)==10||within b.toNat 32 126)<;>rfl
def eJ(e:aA):Bool:=fT e.path&&(bif e.kind==1 then within e.mode 0 7&&e.text==[] else bif e.kind==2 then within e.mode 0 7&&nn e.text else bif e.kind==3 then e.mode==0&&fT e.text else false)
abbrev li(e:aA):Prop:=cZ e.path.length/\cZ e.text.length
theorem aa0(a)(h1:cZ a.1.1.1.length)(h2:cZ a.1.1.2.2.2.1.length):f143 a=some ((eJ ⟨a.1.1.1,a.1.1.2.1,a.1.1.2.2.1,a.1.1.2.2.2.1⟩,()),()):=by
 obtain⟨⟨⟨p,k,m,t,u⟩,cn⟩,nI⟩:=a;have e1:=Nr ((p,()),()) h1;have e2:=Nr ((t,()),()) h2;have bz:=acM ((t,()),()) h2;simp only[f143,e1,e2,bz,nm,Option.bind_some,eJ];cases fT p with
 |false=>rfl
 |true=>cases (k==1)<;>cases (k==2)<;>cases (k==3)<;>cases within m 0 7<;>cases (m==0)<;>rfl
theorem aa4(a)(h1:cZ a.1.1.1.length)(h2:cZ a.1.1.2.2.2.1.length):f152 a=some ((eJ ⟨a.1.1.1,a.1.1.2.1,a.1.1.2.2.1,a.1.1.2.2.2.1⟩,()),()):=by
 obtain⟨⟨⟨p,k,m,t,u⟩,cn⟩,nI⟩:=a;have e1:=DK ((p,()),()) h1;have e2:=DK ((t,()),()) h2;have bz:=_Y ((t,()),()) h2;have hm:within m 0 7=true\/(m==0)=false:=by
  cases h:(m==0) with
  |false=>exact .inr rfl
  |true=>left;rw[show m=(0:Int) from eq_of_beq h];rfl
 simp only[f152,F6,e1,e2,bz,Option.bind_some,eJ,nV,mN,Bool.not_not];unfold within at hm ⊢;cases fT p with
 |false=>rfl
 |true=>
  cases h0:decide ((0:Int)<=m)<;>cases iq:decide (m<=7)<;>rw[h0,iq] at hm<;>cases Xi:(m==0)<;>rw[Xi] at hm<;>
   first|(simp at hm;done)|(simp only[Bool.not_true,Bool.not_false,cond_true,cond_false,Option.bind_some,Xi,e2,bz,Bool.and_true,Bool.and_false,Bool.true_and,Bool.false_and];cases (k==1)<;>cases (k==2)<;>cases (k==3)<;>rfl)
abbrev yw:Shape:=⟨[aK 0 .entry,ao 1,ae 4,au 5,ae 6],[],36⟩
abbrev rG:List aO:=[(.exit 0,⟨[aK 0 .entry,ao 1,ae 4,au 5,ae 6],[],36⟩)]
noncomputable def y7(y:yw.J):bQ yw rG:=
 bif(decide (y.1.2.2.2.2.1<(y.1.1.length:Int))) then
(aU y.1.1 y.1.2.2.2.2.1).bind fun a=>
 bif(Op.bytesLess a.path y.1.2.1) then
 some (.inl ((y.1.1,y.1.2.1,y.1.2.2.1,y.1.2.2.2.1,(IntKind.i64.wrap (y.1.2.2.2.2.1+(1:Int))),()),()))
else
 some (.inr ((y.1.1,y.1.2.1,y.1.2.2.1,y.1.2.2.2.1,y.1.2.2.2.2.1,()),()))
else
 some (.inr ((y.1.1,y.1.2.1,y.1.2.2.1,y.1.2.2.2.1,y.1.2.2.2.2.1,()),()))
noncomputable def FC:yw.J->Option (ay rG):=bx y7
theorem afd:aW U (an (codeOf Tryz.f194) 1 28) (a_ yw rG FC):=bR g0 (by kernel_rfl) ag fun y=>by kernel_rfl
abbrev i194:Shape:=⟨[aK 0 .entry,ao 1],[],36⟩
abbrev SE:Shape:=⟨[ae 4,au 5],[],36⟩
noncomputable def f194(a:i194.J):Option SE.J:=
(FC ((a.1.1,a.1.2.1,(0:Int),false,(0:Int),()),())).bind fun b=>
 bif(decide (b.1.2.2.2.2.1<(b.1.1.length:Int))) then
(aU b.1.1 b.1.2.2.2.2.1).bind fun c=>
 some ((b.1.2.2.2.2.1,(c.path==b.1.2.1),()),())
else
 some ((b.1.2.2.2.2.1,false,()),())
noncomputable def Ig:aH:=aP aj Tryz.f194 i194 SE [] f194
theorem z194:aF U 194 Ig:=aS g0 Tryz.func194 (by kernel_rfl) (a' afd ag) (fun y=>by kernel_rfl) fun a=>by kernel_rfl
noncomputable abbrev amh:bh:=[(194,Ig)]
theorem am6:a7 U (bg aj amh):=bf ⟨z194,⟨⟩⟩
abbrev i144:Shape:=⟨[aK 0 .entry,ao 1],[],26⟩
abbrev S_:Shape:=⟨[au 4],[],26⟩
noncomputable def f144(a:i144.J):Option S_.J:=
(f194 ((a.1.1,a.1.2.1,()),())).bind fun b=>
 bif(!(a.1.2.1==([]:F))) then
 bif b.1.2.1 then
(aU a.1.1 b.1.1).bind fun c=>
 some (((c.kind==(1:Int)),()),())
else
 some ((false,()),())
else
 some ((true,()),())
noncomputable def U4:aH:=aP aj Tryz.f144 i144 S_ [] f144
theorem ajZ:aF U 144 U4:=aS am6 Tryz.func144 (by kernel_rfl) ag (fun y=>by kernel_rfl) fun a=>by kernel_rfl
abbrev yE:Shape:=⟨[ao 0,ae 3],[],18⟩
abbrev E6:List aO:=[(.ret,⟨[ao 2],[],18⟩),(.exit 0,⟨[],[],18⟩)]
noncomputable def F7(y:yE.J):bQ yE E6:=
 bif(decide (y.1.2.1>=(0:Int))) then
(aU y.1.1 y.1.2.1).bind fun a=>
 bif((a.toNat:Int)==(47:Int)) then
(br y.1.1 (0:Int) y.1.2.1).bind fun b=>
 some (.inr (.inl ((b,()),())))
else
 some (.inl ((y.1.1,(IntKind.i64.wrap (y.1.2.1-(1:Int))),()),()))
else
 some (.inr (.inr ((),())))
noncomputable def FI:yE.J->Option (ay E6):=bx F7
theorem afs:aW U (an (codeOf Tryz.f145) 1 26) (a_ yE E6 FI):=bR g0 (by kernel_rfl) ag fun y=>by kernel_rfl
abbrev i145:Shape:=⟨[ao 0],[],18⟩
abbrev S9:Shape:=⟨[ao 2],[],18⟩
noncomputable def f145(a:i145.J):Option S9.J:=
(FI ((a.1.1,(IntKind.i64.wrap ((a.1.1.length:Int)-(1:Int))),()),())).bind fun b=>
(match b with
|.inl c=>
 some ((c.1.1,()),())
|.inr d=>
 some ((([]:F),()),()))
noncomputable def U3:aH:=aP aj Tryz.f145 i145 S9 [] f145
theorem z145:aF U 145 U3:=aS g0 Tryz.func145 (by kernel_rfl) (a' afs ag) (fun y=>by kernel_rfl) fun a=>by kernel_rfl
abbrev yp:Shape:=⟨[ao 0,(1,.ak (.d (.int .u8))),ae 5],[],19⟩
abbrev ET:List aO:=[(.ret,⟨[ae 4],[],19⟩),(.exit 0,⟨[],[],19⟩)]
noncomputable def F1(y:yp.J):bQ yp ET:=
 bif(decide (y.1.2.2.1>=(0:Int))) then
(aU y.1.1 y.1.2.2.1).bind fun a=>
 bif((a.toNat:Int)==y.1.2.1) then
 some (.inr (.inl ((y.1.2.2.1,()),())))
else
 some (.inl ((y.1.1,y.1.2.1,(IntKind.i64.wrap (y.1.2.2.1-(1:Int))),()),()))
else
 some (.inr (.inr ((),())))
noncomputable def Fy:yp.J->Option (ay ET):=bx F1
theorem ae3:aW U (an (codeOf Tryz.f267) 1 26) (a_ yp ET Fy):=bR g0 (by kernel_rfl) ag fun y=>by kernel_rfl
abbrev i267:Shape:=⟨[ao 0,(1,.ak (.d (.int .u8)))],[],19⟩
abbrev Sb:Shape:=⟨[ae 4],[],19⟩
noncomputable def f267(a:i267.J):Option Sb.J:=
(Fy ((a.1.1,a.1.2.1,(IntKind.i64.wrap ((a.1.1.length:Int)-(1:Int))),()),())).bind fun b=>
(match b with
|.inl c=>
 some ((c.1.1,()),())
|.inr d=>
 some ((((-1):Int),()),()))
noncomputable def Uc:aH:=aP aj Tryz.f267 i267 Sb [] f267
theorem ajo:aF U 267 Uc:=aS g0 Tryz.func267 (by kernel_rfl) (a' ae3 ag) (fun y=>by kernel_rfl) fun a=>by kernel_rfl
noncomputable abbrev alE:bh:=[(267,Uc)]
theorem amO:a7 U (bg aj alE):=bf ⟨ajo,⟨⟩⟩
abbrev i233:Shape:=⟨[ao 0,(1,.ak (.d (.int .u8)))],[],8⟩
abbrev Si:Shape:=⟨[ae 4],[],8⟩
noncomputable def f233(a:i233.J):Option Si.J:=
(f267 ((a.1.1,a.1.2.1,()),())).bind fun b=>
 some ((b.1.1,()),())
noncomputable def Uj:aH:=aP aj Tryz.f233 i233 Si [] f233
theorem z233:aF U 233 Uj:=aS amO Tryz.func233 (by kernel_rfl) ag (fun y=>by kernel_rfl) fun a=>by kernel_rfl
noncomputable abbrev alR:bh:=[(199,If),(233,Uj)]
theorem amW:a7 U (bg aj alR):=bf ⟨RN,z233,⟨⟩⟩
abbrev i200:Shape:=⟨[ao 0],[],11⟩
abbrev SA:Shape:=⟨[ao 2],[],11⟩
noncomputable def f200(a:i200.J):Option SA.J:=
(f199 ((a.1.1,()),())).bind fun b=>
 bif(!b.2.1.1) then
 some ((([]:F),()),())
else
(f233 ((a.1.1,(47:Int),()),())).bind fun c=>
(br a.1.1 (0:Int) (gr c.1.1 (0:Int))).bind fun d=>
 some ((d,()),())
noncomputable def Ux:aH:=aP aj Tryz.f200 i200 SA [] f200
theorem ajE:aF U 200 Ux:=aS amW Tryz.func200 (by kernel_rfl) ag (fun y=>by kernel_rfl) fun a=>by kernel_rfl
abbrev i283:Shape:=⟨[ao 0],[],6⟩
abbrev R8:Shape:=⟨[au 2],[],6⟩
noncomputable def f283(a:i283.J):Option R8.J:=
 some (((!(a.1.1==a.1.1)),()),())
noncomputable def T9:aH:=aP aj Tryz.f283 i283 R8 [] f283
theorem ajj:aF U 283 T9:=aS g0 Tryz.func283 (by kernel_rfl) ag (fun y=>by kernel_rfl) fun a=>by kernel_rfl
noncomputable abbrev alz:bh:=[(283,T9)]
theorem amK:a7 U (bg aj alz):=bf ⟨ajj,⟨⟩⟩
abbrev i268:Shape:=⟨[ao 0,ao 1],[],20⟩
abbrev Sa:Shape:=⟨[ae 4],[],20⟩
noncomputable def f268(a:i268.J):Option Sa.J:=
(f283 ((a.1.1,()),())).bind fun b=>
(f283 ((a.1.2.1,()),())).bind fun c=>
 bif b.1.1 then
 bif c.1.1 then
 some (((0:Int),()),())
else
 some ((((-1):Int),()),())
else
 bif c.1.1 then
 some (((1:Int),()),())
else
 bif(Op.bytesLess a.1.1 a.1.2.1) then
 some ((((-1):Int),()),())
else
 bif(!(Op.bytesLess a.1.1 a.1.2.1||a.1.1==a.1.2.1)) then
 some (((1:Int),()),())
else
 some (((0:Int),()),())
noncomputable def Ub:aH:=aP aj Tryz.f268 i268 Sa [] f268
theorem ajn:aF U 268 Ub:=aS amK Tryz.func268 (by kernel_rfl) ag (fun y=>by kernel_rfl) fun a=>by kernel_rfl
noncomputable abbrev alD:bh:=[(268,Ub)]
theorem amN:a7 U (bg aj alD):=bf ⟨ajn,⟨⟩⟩
abbrev i235:Shape:=⟨[cB 0 [ai,bo,bo,ai],cB 1 [ai,bo,bo,ai]],[],10⟩
abbrev Sh:Shape:=⟨[ae 4],[],10⟩
noncomputable def f235(a:i235.J):Option Sh.J:=
(f268 ((a.1.1.1,a.1.2.1.1,()),())).bind fun b=>
 some ((b.1.1,()),())
noncomputable def Ui:aH:=aP aj Tryz.f235 i235 Sh [] f235
theorem aju:aF U 235 Ui:=aS amN Tryz.func235 (by kernel_rfl) ag (fun y=>by kernel_rfl) fun a=>by kernel_rfl
noncomputable abbrev ahX:bh:=[(235,Ui)]
theorem Q3:a7 U (bg aj ahX):=bf ⟨aju,⟨⟩⟩
abbrev xq:Shape:=⟨[aK 0 .entry,(2,.ak (.fn 235 [])),aM 4 4 0,ae 6,au 7,ae 8,ae 9,ae 10],[aL 4 [ai,bo,bo,ai]],49⟩
abbrev C4:List aO:=[(.exit 0,⟨[aK 0 .entry,(2,.ak (.fn 235 [])),aM 4 4 0,ae 6,au 7,ae 8,ae 9],[aL 4 [ai,bo,bo,ai]],49⟩)]
noncomputable def xC(y:xq.J):bQ xq C4:=
 bif(decide (y.1.2.2.2.2.2.2.1<y.1.2.2.2.2.2.2.2.1)) then
(e6 .u64 (IntKind.u64.wrap (IntKind.i64.wrap (y.1.2.2.2.2.2.2.1+y.1.2.2.2.2.2.2.2.1))) (1:Int)).bind fun a=>
(aU y.1.1 (IntKind.i64.wrap a)).bind fun b=>
(f235 (((b.path,b.kind,b.mode,b.text,()),(y.2.1.1,y.2.1.2.1,y.2.1.2.2.1,y.2.1.2.2.2.1,()),()),())).bind fun c=>
 bif(decide (c.1.1<(0:Int))) then
 some (.inl ((y.1.1,(),(),y.1.2.2.2.1,y.1.2.2.2.2.1,y.1.2.2.2.2.2.1,(IntKind.i64.wrap ((IntKind.i64.wrap a)+(1:Int))),y.1.2.2.2.2.2.2.2.1,()),(y.2.1.1,y.2.1.2.1,y.2.1.2.2.1,y.2.1.2.2.2.1,()),()))
else
 some (.inl ((y.1.1,(),(),y.1.2.2.2.1,y.1.2.2.2.2.1,y.1.2.2.2.2.2.1,y.1.2.2.2.2.2.2.1,(IntKind.i64.wrap a),()),(y.2.1.1,y.2.1.2.1,y.2.1.2.2.1,y.2.1.2.2.2.1,()),()))
else
 some (.inr ((y.1.1,(),(),y.1.2.2.2.1,y.1.2.2.2.2.1,y.1.2.2.2.2.2.1,y.1.2.2.2.2.2.2.1,()),(y.2.1.1,y.2.1.2.1,y.2.1.2.2.1,y.2.1.2.2.2.1,()),()))
noncomputable def xB:xq.J->Option (ay C4):=bx xC
theorem abC:aW U (an (codeOf Tryz.f234) 1 60) (a_ xq C4 xB):=bR Q3 (by kernel_rfl) ag fun y=>by kernel_rfl
abbrev Qt:Shape:=⟨[aK 0 .entry,cB 1 [ai,bo,bo,ai],(2,.ak (.fn 235 []))],[],49⟩
abbrev Qb:Shape:=⟨[ae 6,au 7],[],49⟩
noncomputable def Ah(a:Qt.J):Option Qb.J:=
(xB ((a.1.1,(),(),(0:Int),false,(a.1.1.length:Int),(0:Int),(a.1.1.length:Int),()),(a.1.2.1.1,a.1.2.1.2.1,a.1.2.1.2.2.1,a.1.2.1.2.2.2.1,()),())).bind fun b=>
 bif(decide (b.1.2.2.2.2.2.2.1<b.1.2.2.2.2.2.1)) then
(aU b.1.1 b.1.2.2.2.2.2.2.1).bind fun c=>
(f235 (((c.path,c.kind,c.mode,c.text,()),(b.2.1.1,b.2.1.2.1,b.2.1.2.2.1,b.2.1.2.2.2.1,()),()),())).bind fun d=>
 some ((b.1.2.2.2.2.2.2.1,(d.1.1==(0:Int)),()),())
else
 some ((b.1.2.2.2.2.2.2.1,false,()),())
noncomputable def QS:aH:=aP aj Tryz.f234 Qt Qb [] Ah
theorem agu:aF U 234 QS:=aS Q3 Tryz.func234 (by kernel_rfl) (a' abC ag) (fun y=>by kernel_rfl) fun a=>by kernel_rfl
noncomputable abbrev alQ:bh:=[(234,QS)]
theorem amV:a7 U (bg aj alQ):=bf ⟨agu,⟨⟩⟩
abbrev i201:Shape:=⟨[aK 0 .entry,ao 1],[],12⟩
abbrev Sz:Shape:=⟨[ae 4,au 5],[],12⟩
noncomputable def f201(a:i201.J):Option Sz.J:=
(Ah ((a.1.1,(a.1.2.1,(0:Int),(0:Int),([]:F),()),(),()),())).bind fun b=>
 some ((b.1.1,b.1.2.1,()),())
noncomputable def Ie:aH:=aP aj Tryz.f201 i201 Sz [] f201
theorem z201:aF U 201 Ie:=aS amV Tryz.func201 (by kernel_rfl) ag (fun y=>by kernel_rfl) fun a=>by kernel_rfl
theorem Ao:∀a:F,Op.bytesLess a a=false:=by
 intro a;induction a with
 |nil=>rfl
 |cons b r ih=>simp[Op.bytesLess,ih]
theorem ud:∀a b c:F,Op.bytesLess a b=true->Op.bytesLess b c=true->Op.bytesLess a c=true:=by
 intro a;induction a with
 |nil=>intro b c h1 h2;cases c with
  |nil=>cases b<;>simp[Op.bytesLess] at h2
  |cons z c=>rfl
 |cons x a ih=>
  intro b c h1 h2;cases b with
  |nil=>simp[Op.bytesLess] at h1
  |cons y b=>
   cases c with
   |nil=>simp[Op.bytesLess] at h2
   |cons z c=>
    simp only[Op.bytesLess,Bool.or_eq_true,decide_eq_true_eq,Bool.and_eq_true,beq_iff_eq] at h1 h2 ⊢;rcases h1 with h1|⟨rfl,h1⟩
    ·rcases h2 with h2|⟨rfl,h2⟩
     ·exact .inl (UInt8.lt_trans h1 h2)
     ·exact .inl h1
    ·rcases h2 with h2|⟨rfl,h2⟩
     ·exact .inl h2
     ·exact .inr ⟨rfl,ih b c h1 h2⟩
theorem ahP:∀a b:F,Op.bytesLess a b=false->(a==b)=false->Op.bytesLess b a=true:=by
 intro a;induction a with
 |nil=>intro b h1 h2;cases b with
  |nil=>simp at h2
  |cons y b=>simp[Op.bytesLess] at h1
 |cons x a ih=>
  intro b h1 h2;cases b with
  |nil=>rfl
  |cons y b=>
   simp only[Op.bytesLess,Bool.or_eq_false_iff,decide_eq_false_iff_not,Bool.and_eq_false_iff,beq_eq_false_iff_ne,ne_eq] at h1;simp only[Op.bytesLess,Bool.or_eq_true,decide_eq_true_eq,Bool.and_eq_true,beq_iff_eq];by_cases hxy:x=y
   ·subst hxy;refine .inr ⟨rfl,ih b ?_ ?_⟩
    ·rcases h1.2 with h|h
     ·exact absurd rfl h
     ·exact h
    ·cases h:(a==b) with
     |false=>rfl
     |true=>rw[eq_of_beq h] at h2;simp at h2
   ·exact .inl (by
     have:=h1.1;rcases UInt8.lt_or_lt_of_ne (fun h=>hxy h) with h|h
     ·exact absurd h this
     ·exact h)
theorem agj{a b:F}(h:Op.bytesLess a b=true):Op.bytesLess b a=false:=by
 cases h2:Op.bytesLess b a with
 |false=>rfl
 |true=>have:=ud a b a h h2;rw[Ao] at this;cases this
theorem ai9{a b:F}(h:Op.bytesLess a b=true):(a==b)=false:=by
 cases h2:(a==b) with
 |false=>rfl
 |true=>rw[eq_of_beq h2,Ao] at h;cases h
theorem agi:∀(s:F) (i:Nat),i<s.length->Op.bytesLess (s.take i) s=true:=by
 intro s;induction s with
 |nil=>intro i h;simp at h
 |cons b r ih=>
  intro i h;cases i with
  |zero=>rfl
  |succ i=>simp only[List.take_succ_cons,Op.bytesLess];simp[ih i (by simpa using h)]
def kQ(c:UInt8)(s:F):Nat->Option Nat
 |0=>none
 |n+1=>match s[n]? with
  |some b=>bif(b.toNat:Int)==(c.toNat:Int) then some n else kQ c s n
  |none=>none
theorem K'{c:UInt8}{s:F}:∀{n i:Nat},kQ c s n=some i->i<n/\i<s.length:=by
 intro n;induction n with
 |zero=>intro i h;cases h
 |succ n ih=>
  intro i h;simp only[kQ] at h;split at h
  ·rename_i b hb;cases hc:((b.toNat:Int)==(c.toNat:Int)) with
   |true=>rw[hc] at h;cases h;exact⟨Nat.lt_succ_self _,dd hb⟩
   |false=>rw[hc] at h;have:=ih h;omega
  ·cases h
def i_(s:F):F:=match kQ 47 s s.length with
 |some i=>s.take i
 |none=>[]
theorem acW{s:F}(h:(i_ s==[])=false):Op.bytesLess (i_ s) s=true:=by
 unfold i_ at h ⊢;split
 ·rename_i i hi;exact agi s i (K' hi).2
 ·rename_i hi;rw[hi] at h;cases h
theorem agI(a)(hs:cZ a.1.1.length):f145 a=some ((i_ a.1.1,()),()):=by
 obtain⟨⟨s,u⟩,cn⟩:=a;have hs:s.length<=2097152:=hs;have key:∀n,n<=s.length->FI ((s,((n:Int)-1,())),())=some (match kQ 47 s n with|some i=>.inl ((s.take i,()),())|none=>.inr ((),())):=by
  intro n;induction n with
  |zero=>intro _;exact cm (by rfl)
  |succ n ih=>
   intro hn;have e:((n+1:Nat):Int)-1=(n:Int):=by omega
   obtain⟨b,hb⟩:∃b,s[n]? =some b:=⟨s[n],List.getElem?_eq_getElem hn⟩;have h0:decide ((n:Int)>=0)=true:=by simp
   rw[e];simp only[kQ,hb];cases hc:((b.toNat:Int)==((47:UInt8).toNat:Int)) with
   |true=>
    refine cm ?_
    simp only[F7,h0,cond_true,b6,hb,Option.bind_some];rw[show((b.toNat:Int)==47)=true from hc,hO (by omega)]
    rfl
   |false=>
    refine(dD ?_).trans (ih (by omega))
    simp only[F7,h0,cond_true,b6,hb,Option.bind_some];rw[show((b.toNat:Int)==47)=false from hc,ed (by omega) (by omega)]
    rfl
 have hw:IntKind.i64.wrap ((s.length:Int)-1)=(s.length:Int)-1:=ed (by omega) (by omega)
 simp only[f145,hw,key s.length (Nat.le_refl _),Option.bind_some,i_];cases kQ 47 s s.length<;>rfl
theorem Z7(a)(hs:cZ a.1.1.length)(apI:a.1.2.1=47):f267 a=some (((match kQ 47 a.1.1 a.1.1.length with|some i=>(i:Int)|none=>-1),()),()):=by
 obtain⟨⟨s,c,u⟩,cn⟩:=a;obtain rfl:c=47:=apI;have hs:s.length<=2097152:=hs;have key:∀n,n<=s.length->Fy ((s,((47:Int),((n:Int)-1,()))),())=some (match kQ 47 s n with|some i=>.inl (((i:Int),()),())|none=>.inr ((),())):=by
  intro n;induction n with
  |zero=>intro _;exact cm (by rfl)
  |succ n ih=>
   intro hn;have e:((n+1:Nat):Int)-1=(n:Int):=by omega
   obtain⟨b,hb⟩:∃b,s[n]? =some b:=⟨s[n],List.getElem?_eq_getElem hn⟩;have h0:decide ((n:Int)>=0)=true:=by simp
   rw[e];simp only[kQ,hb];cases hc:((b.toNat:Int)==((47:UInt8).toNat:Int)) with
   |true=>
    refine cm ?_
    simp only[F1,h0,cond_true,b6,hb,Option.bind_some];rw[show((b.toNat:Int)==47)=true from hc]
    rfl
   |false=>
    refine(dD ?_).trans (ih (by omega))
    simp only[F1,h0,cond_true,b6,hb,Option.bind_some];rw[show((b.toNat:Int)==47)=false from hc,ed (by omega) (by omega)]
    rfl
 have hw:IntKind.i64.wrap ((s.length:Int)-1)=(s.length:Int)-1:=ed (by omega) (by omega)
 simp only[f267,hw,key s.length (Nat.le_refl _),Option.bind_some];cases kQ 47 s s.length<;>rfl
theorem acS(a)(hs:cZ a.1.1.length):f200 a=some (((bif fT a.1.1 then i_ a.1.1 else []),()),()):=by
 obtain⟨⟨s,u⟩,cn⟩:=a;have hs:s.length<=2097152:=hs;have e1:=DK ((s,()),()) hs;have e2:=Z7 ((s,((47:Int),())),()) hs rfl;simp only[f200,e1,Option.bind_some,f233,e2];cases fT s with
 |false=>rfl
 |true=>
  simp only[Bool.not_true,cond_false,cond_true];unfold i_;cases hl:kQ 47 s s.length with
  |none=>
   have:gr (-1) 0=0:=by decide
   simp only[this];have:=hO (xs:=s) (b:=0) (Nat.zero_le _);have this:br s 0 0=some (s.take 0):=this;rw[this];rfl
  |some i=>
   have hi:=(K' hl).2;have:gr (i:Int) 0=(i:Int):=by unfold gr;rw[if_neg (by omega)]
   simp only[this];rw[hO (by omega)];rfl
def b4(t:List aA)(p:F):Nat:=(t.takeWhile fun e=>Op.bytesLess e.path p).length
def jP(t:List aA)(p:F):Bool:=match t[b4 t p]? with
 |some e=>e.path==p
 |none=>false
def kd(t:List aA)(p:F):Bool:=p==[]||match t[b4 t p]? with
 |some e=>e.path==p&&e.kind==1
 |none=>false
theorem rI(t:List aA)(p:F):b4 t p<=t.length:=(List.takeWhile_prefix _).length_le
theorem PO(a)(hs:cZ a.1.1.length):f194 a=some (((b4 a.1.1 a.1.2.1:Int),(jP a.1.1 a.1.2.1,())),()):=by
 obtain⟨⟨t,p,u⟩,cn⟩:=a;have hs:t.length<=2097152:=hs;have key:FC ((t,(p,((0:Int),(false,((0:Int),()))))),())=_:=Dk y7 t (fun i (_:Unit)=>((t,(p,((0:Int),(false,((i:Int),()))))),()))
  (fun i e _=>some (bif Op.bytesLess e.path p then .inl () else .inr ((((t,(p,((0:Int),(false,((i:Int),()))))),())):ay rG))) (fun _=>((t,(p,((0:Int),(false,((t.length:Int),()))))),())) (fun i e s he=>?_) (fun s=>?_) ()
 ·have fold:∀(r:List aA) (k:Nat),k+r.length=t.length->eI (fun i (e:aA) (_:Unit)=>some (bif Op.bytesLess e.path p then .inl () else .inr ((((t,(p,((0:Int),(false,((i:Int),()))))),())):ay rG))) (fun _=>(((t,(p,((0:Int),(false,((t.length:Int),()))))),()):ay rG)) k r ()=
    some ((t,(p,((0:Int),(false,(((k+(r.takeWhile fun e=>Op.bytesLess e.path p).length:Nat):Int),()))))),()):=by
   intro r;induction r with
   |nil=>intro k hk;simp only[eI,List.takeWhile_nil,List.length_nil,Nat.add_zero] at hk ⊢;rw[hk]
   |cons e r ih=>
    intro k hk;simp only[eI,List.takeWhile_cons];cases hl:Op.bytesLess e.path p with
    |false=>rfl
    |true=>
     simp only[cond_true,if_true,List.length_cons];rw[ih (k+1) (by simp only[List.length_cons] at hk;omega)]
     have:k+1+(r.takeWhile fun e=>Op.bytesLess e.path p).length=k+((r.takeWhile fun e=>Op.bytesLess e.path p).length+1):=by omega
     rw[this]
  rw[fold t 0 (Nat.zero_add _),Nat.zero_add] at key;have hk:(t.takeWhile fun e=>Op.bytesLess e.path p).length=b4 t p:=rfl
  rw[hk] at key;simp only[f194,key,Option.bind_some,jP,b6];cases ap:t[b4 t p]? with
  |none=>
   have:=List.getElem?_eq_none_iff.1 ap;have:decide ((b4 t p:Int)<(t.length:Int))=false:=by simp only[decide_eq_false_iff_not];omega
   rw[this];rfl
  |some e=>rw[cp (dd ap)];rfl
 ·have hi:=dd he;have hw:aq i:=by unfold aq;omega
  simp only[y7,cp hi,cond_true,b6,he,Option.bind_some,b0 hw];cases Op.bytesLess e.path p<;>rfl
 ·simp only[y7,dM,cond_false]
theorem aeH(a)(hs:cZ a.1.1.length):f144 a=some ((kd a.1.1 a.1.2.1,()),()):=by
 obtain⟨⟨t,p,u⟩,cn⟩:=a;have e1:=PO ((t,(p,())),()) hs;simp only[f144,e1,Option.bind_some,kd,jP,b6];cases (p==[]) with
 |true=>rfl
 |false=>
  cases ap:t[b4 t p]? with
  |none=>rfl
  |some e=>simp only[Bool.not_false,cond_true,Option.bind_some,Bool.false_or];cases (e.path==p)<;>rfl
def gd(t:List aA):Prop:=t.Pairwise fun a b=>Op.bytesLess a.path b.path=true
theorem gd.take{t:List aA}(h:gd t)(i:Nat):gd (t.take i):=List.Pairwise.sublist (List.take_sublist i t) h
theorem lw:∀{t:List aA} {p:F},gd t->∀(h:Nat) (e:aA),t[h]? =some e->Op.bytesLess e.path p=decide (h<b4 t p):=by
 intro t p;induction t with
 |nil=>intro _ h e he;simp at he
 |cons x t ih=>
  intro ha h e he;have fa:=List.pairwise_cons.1 ha;unfold b4;rw[List.takeWhile_cons];cases hx:Op.bytesLess x.path p with
  |true=>
   simp only[if_true,List.length_cons];cases h with
   |zero=>simp only[List.getElem?_cons_zero,Option.some.injEq] at he;subst he;rw[hx];simp
   |succ h=>
    simp only[List.getElem?_cons_succ] at he;rw[ih fa.2 h e he];unfold b4;congr 1;apply propext;omega
  |false=>
   have:(decide (h<(if false=true then x::t.takeWhile (fun e=>Op.bytesLess e.path p) else []).length))=false:=by simp
   rw[this];cases h with
   |zero=>simp only[List.getElem?_cons_zero,Option.some.injEq] at he;subst he;exact hx
   |succ h=>
    simp only[List.getElem?_cons_succ] at he;have h2:=fa.1 e (List.mem_of_getElem? he);cases h3:Op.bytesLess e.path p with
    |false=>rfl
    |true=>have:=ud _ _ _ h2 h3;rw[hx] at this;cases this
def sQ(a b:F):Int:=bif Op.bytesLess a b then-1 else bif a==b then 0 else 1
theorem DJ(a):f235 a=some ((sQ a.1.1.1 a.1.2.1.1,()),()):=by
 obtain⟨⟨⟨p,dV⟩,⟨⟨q,fE⟩,je⟩⟩,X_⟩:=a;have h1:(p==p)=true:=by simp
 have h2:(q==q)=true:=by simp
 simp only[f235,f268,f283,Option.bind_some,h1,h2,Bool.not_true,cond_false,sQ];cases Op.bytesLess p q<;>cases (p==q)<;>rfl
theorem Of(a b:F):decide (sQ a b<0)=Op.bytesLess a b:=by
 unfold sQ;cases Op.bytesLess a b<;>cases (a==b)<;>rfl
theorem acy(a b:F):(sQ a b==0)=(a==b):=by
 unfold sQ;cases h:Op.bytesLess a b with
 |true=>rw[ai9 h];rfl
 |false=>cases (a==b)<;>rfl
theorem akt{n:Nat}(h:n<=1099511627776):e6 .u64 (IntKind.u64.wrap (IntKind.i64.wrap (n:Int))) 1=some (((n/2:Nat)):Int):=by
 rw[ed (by omega) (by omega)]
 have:IntKind.u64.wrap (n:Int)=(n:Int):=by
  simp[IntKind.wrap,IntKind.bits,IntKind.signed];omega
 rw[this];unfold e6;rw[if_neg (by decide)]
 congr 1
 show Int.fdiv (n:Int) 2=_;rw[Int.fdiv_eq_ediv_of_nonneg _ (by decide)]
 omega
theorem Lg(a)(hs:cZ a.1.1.length)(ha:gd a.1.1):f201 a=some (((b4 a.1.1 a.1.2.1:Int),(jP a.1.1 a.1.2.1,())),()):=by
 obtain⟨⟨t,p,u⟩,cn⟩:=a;have hs:t.length<=2097152:=hs;have Ch:=rI t p;have key:∀d i j:Nat,j-i=d->i<=b4 t p->b4 t p<=j->j<=t.length->
   xB ((t,((),((),((0:Int),(false,((t.length:Int),((i:Int),((j:Int),())))))))),((p,((0:Int),((0:Int),(([]:F),())))),()))=
    some (((t,((),((),((0:Int),(false,((t.length:Int),((b4 t p:Int),()))))))),((p,((0:Int),((0:Int),(([]:F),())))),()))):=by
  intro d;induction d using Nat.strongRecOn with
  |_ d ih=>
   intro i j Z hi hj hl;by_cases o6:i<j
   ·have bP:(i+j)/2<t.length:=by omega
    obtain⟨e,he⟩:∃e,t[(i+j)/2]? =some e:=⟨t[(i+j)/2],List.getElem?_eq_getElem bP⟩;have hsh:e6 .u64 (IntKind.u64.wrap (IntKind.i64.wrap ((i:Int)+(j:Int)))) 1=some ((((i+j)/2:Nat)):Int):=by
     rw[<-akt (n:=i+j) (by omega)];rw[Int.natCast_add]
    have WS:IntKind.i64.wrap (((i+j)/2:Nat):Int)=(((i+j)/2:Nat):Int):=ed (by omega) (by omega)
    have nQ:=lw (t:=t) (p:=p) ha ((i+j)/2) e he;cases hb:Op.bytesLess e.path p with
    |true=>
     rw[hb] at nQ;have hlt:(i+j)/2<b4 t p:=by simpa using nQ.symm
     refine(dD ?_).trans (ih (j-((i+j)/2+1)) (by omega) ((i+j)/2+1) j rfl (by omega) hj hl)
     simp only[xC,cp o6,cond_true,hsh,WS,b6,he,Option.bind_some,DJ,Of,hb,b0 (i:=(i+j)/2) (by unfold aq;omega)]
    |false=>
     rw[hb] at nQ;have hge:¬(i+j)/2<b4 t p:=by simpa using nQ.symm
     refine(dD ?_).trans (ih ((i+j)/2-i) (by omega) i ((i+j)/2) rfl hi (by omega) (by omega))
     simp only[xC,cp o6,cond_true,hsh,WS,b6,he,Option.bind_some,DJ,Of,hb,cond_false]
   ·have j1:i=b4 t p:=by omega
    have hlt:decide ((i:Int)<(j:Int))=false:=by simp only[decide_eq_false_iff_not];omega
    refine cm ?_
    simp only[xC,hlt,cond_false];rw[j1]
 have ln:xB ((t,((),((),((0:Int),(false,((t.length:Int),((0:Int),((t.length:Int),())))))))),((p,((0:Int),((0:Int),(([]:F),())))),()))=_:=key t.length 0 t.length (Nat.sub_zero _) (Nat.zero_le _) Ch (Nat.le_refl _);have Y:Ah ((t,((p,((0:Int),((0:Int),(([]:F),())))),((),()))),())=some (((b4 t p:Int),(jP t p,())),()):=by
  simp only[Ah,ln,Option.bind_some,jP,b6,DJ,acy];cases ap:t[b4 t p]? with
  |none=>
   have:=List.getElem?_eq_none_iff.1 ap;have:decide ((b4 t p:Int)<(t.length:Int))=false:=by simp only[decide_eq_false_iff_not];omega
   rw[this];rfl
  |some e=>rw[cp (dd ap)];rfl
 simp only[f201,Y,Option.bind_some]
noncomputable abbrev amb:bh:=[(200,Ux),(201,Ie)]
theorem am3:a7 U (bg aj amb):=bf ⟨ajE,z201,⟨⟩⟩
abbrev i153:Shape:=⟨[aK 0 .entry,ao 1],[],27⟩
abbrev S2:Shape:=⟨[au 4],[],27⟩
noncomputable def f153(a:i153.J):Option S2.J:=
(f200 ((a.1.2.1,()),())).bind fun b=>
 bif(b.1.1==([]:F)) then
 some ((true,()),())
else
(f201 ((a.1.1,b.1.1,()),())).bind fun c=>
 bif c.1.2.1 then
(aU a.1.1 c.1.1).bind fun d=>
 some (((d.kind==(1:Int)),()),())
else
 some ((false,()),())
noncomputable def UW:aH:=aP aj Tryz.f153 i153 S2 [] f153
theorem ajV:aF U 153 UW:=aS am3 Tryz.func153 (by kernel_rfl) ag (fun y=>by kernel_rfl) fun a=>by kernel_rfl
noncomputable abbrev amF:bh:=[(152,UX),(153,UW)]
theorem Iy:a7 U (bg aj amF):=bf ⟨z152,ajV,⟨⟩⟩
abbrev MP:Shape:=⟨[aK 0 .entry,ae 3,aM 4 4 0,aK 8 .entry,ae 9,ae 10],[aL 4 [ai,bo,bo,ai]],43⟩
abbrev Mx:List aO:=[(.norm,⟨[aK 0 .entry,aK 8 .entry,ae 9,ae 10,cB 15 [ai,bo,bo,ai],au 16,au 17,au 18,au 32,au 33,au 41],[],43⟩)]
noncomputable def DD(y:MP.J):Option (ay Mx):=
(f152 (((y.2.1.1,y.2.1.2.1,y.2.1.2.2.1,y.2.1.2.2.2.1,()),()),())).bind fun a=>
 bif(!a.1.1) then
 some ((y.1.1,y.1.2.2.2.1,y.1.2.2.2.2.1,y.1.2.2.2.2.2.1,(y.2.1.1,y.2.1.2.1,y.2.1.2.2.1,y.2.1.2.2.2.1,()),a.1.1,(!a.1.1),true,true,true,true,()),())
else
 bif(decide (y.1.2.1>(0:Int))) then
(aU y.1.1 (IntKind.i64.wrap (y.1.2.1-(1:Int)))).bind fun b=>
 bif(!(Op.bytesLess b.path y.2.1.1)) then
 some ((y.1.1,y.1.2.2.2.1,y.1.2.2.2.2.1,y.1.2.2.2.2.2.1,(y.2.1.1,y.2.1.2.1,y.2.1.2.2.1,y.2.1.2.2.2.1,()),a.1.1,(!a.1.1),false,(!(Op.bytesLess b.path y.2.1.1)),true,true,()),())
else
(br y.1.1 (0:Int) y.1.2.1).bind fun c=>
(f153 ((c,y.2.1.1,()),())).bind fun d=>
 some ((y.1.1,y.1.2.2.2.1,y.1.2.2.2.2.1,y.1.2.2.2.2.2.1,(y.2.1.1,y.2.1.2.1,y.2.1.2.2.1,y.2.1.2.2.2.1,()),a.1.1,(!a.1.1),false,(!(Op.bytesLess b.path y.2.1.1)),false,(!d.1.1),()),())
else
(br y.1.1 (0:Int) y.1.2.1).bind fun e=>
(f153 ((e,y.2.1.1,()),())).bind fun f=>
 some ((y.1.1,y.1.2.2.2.1,y.1.2.2.2.2.1,y.1.2.2.2.2.2.1,(y.2.1.1,y.2.1.2.1,y.2.1.2.2.1,y.2.1.2.2.2.1,()),a.1.1,(!a.1.1),false,false,false,(!f.1.1),()),())
theorem abT:aW U (an (c8 (an (codeOf Tryz.f105) 1 58)) 116 7474) (a_ MP Mx DD):=cS Iy (by kernel_rfl) ag fun y=>by kernel_rfl
abbrev yT:Shape:=⟨[aK 0 .entry,aK 8 .entry,ae 9,ae 10],[],43⟩
abbrev ug:List aO:=[(.ret,⟨[au 2],[],43⟩),(.exit 0,⟨[],[],43⟩)]
noncomputable def zl(y:yT.J):bQ yT ug:=
 bif(decide (y.1.2.2.2.1<y.1.2.2.1)) then
(aU y.1.2.1 y.1.2.2.2.1).bind fun a=>
(DD ((y.1.1,y.1.2.2.2.1,(),y.1.2.1,y.1.2.2.1,y.1.2.2.2.1,()),(a.path,a.kind,a.mode,a.text,()),())).bind fun b=>
 bif b.1.2.2.2.2.2.2.2.2.2.2.1 then
 some (.inr (.inl ((false,()),())))
else
 some (.inl ((b.1.1,b.1.2.1,b.1.2.2.1,(IntKind.i64.wrap (b.1.2.2.2.1+(1:Int))),()),()))
else
 some (.inr (.inr ((),())))
noncomputable def FQ:yT.J->Option (ay ug):=bx zl
theorem afI:aW U (an (codeOf Tryz.f105) 1 58) (a_ yT ug FQ):=bR Iy (by kernel_rfl) (a' abT ag) fun y=>by kernel_rfl
abbrev i105:Shape:=⟨[aK 0 .entry],[],43⟩
abbrev Tx:Shape:=⟨[au 2],[],43⟩
noncomputable def f105(a:i105.J):Option Tx.J:=
 bif(decide ((a.1.1.length:Int)>(16:Int))) then
 some ((false,()),())
else
(FQ ((a.1.1,a.1.1,(a.1.1.length:Int),(0:Int),()),())).bind fun b=>
(match b with
|.inl c=>
 some ((c.1.1,()),())
|.inr d=>
 some ((true,()),()))
noncomputable def vw:aH:=aP aj Tryz.f105 i105 Tx [] f105
theorem z105:aF U 105 vw:=aS Iy Tryz.func105 (by kernel_rfl) (a' afI ag) (fun y=>by kernel_rfl) fun a=>by kernel_rfl
noncomputable abbrev aqt:bh:=[(143,U5),(144,U4),(145,U3)]
theorem B8:a7 U (bg aj aqt):=bf ⟨z143,ajZ,z145,⟨⟩⟩
abbrev OQ:Shape:=⟨[aK 0 .entry,ae 3],[],53⟩
abbrev Ox:List aO:=[(.norm,⟨[aK 0 .entry,ae 3,aK 11 .entry,ae 12,(13,.ak (.et [.str,.int .i64,.int .i64,.str] 0)),cB 14 [ai,bo,bo,ai],au 15,au 16,au 17,au 34],[],53⟩)]
noncomputable def FW(y:OQ.J):Option (ay Ox):=
(aU y.1.1 y.1.2.1).bind fun a=>
(f143 (((a.path,a.kind,a.mode,a.text,()),()),())).bind fun b=>
 bif(!b.1.1) then
 some ((y.1.1,y.1.2.1,y.1.1,y.1.2.1,(a.path,a.kind,a.mode,a.text,()),(a.path,a.kind,a.mode,a.text,()),b.1.1,(!b.1.1),true,true,()),())
else
 bif(decide (y.1.2.1>(0:Int))) then
(aU y.1.1 (IntKind.i64.wrap (y.1.2.1-(1:Int)))).bind fun c=>
(aU y.1.1 y.1.2.1).bind fun d=>
 some ((y.1.1,y.1.2.1,y.1.1,y.1.2.1,(a.path,a.kind,a.mode,a.text,()),(a.path,a.kind,a.mode,a.text,()),b.1.1,(!b.1.1),false,(!(Op.bytesLess c.path d.path)),()),())
else
 some ((y.1.1,y.1.2.1,y.1.1,y.1.2.1,(a.path,a.kind,a.mode,a.text,()),(a.path,a.kind,a.mode,a.text,()),b.1.1,(!b.1.1),false,false,()),())
theorem aeR:aW U (an (c8 (an (codeOf Tryz.f90) 1 26)) 52 840) (a_ OQ Ox FW):=cS B8 (by kernel_rfl) ag fun y=>by kernel_rfl
abbrev zG:Shape:=⟨[aK 0 .entry,ae 3],[],53⟩
abbrev Gk:List aO:=[(.ret,⟨[au 2],[],53⟩),(.exit 0,⟨[aK 0 .entry],[],53⟩)]
noncomputable def z_(y:zG.J):bQ zG Gk:=
 bif(decide (y.1.2.1<(y.1.1.length:Int))) then
(FW ((y.1.1,y.1.2.1,()),())).bind fun a=>
 bif a.1.2.2.2.2.2.2.2.2.2.1 then
 some (.inr (.inl ((false,()),())))
else
 some (.inl ((a.1.1,(IntKind.i64.wrap (a.1.2.1+(1:Int))),()),()))
else
 some (.inr (.inr ((y.1.1,()),())))
noncomputable def GH:zG.J->Option (ay Gk):=bx z_
theorem ag2:aW U (an (codeOf Tryz.f90) 1 26) (a_ zG Gk GH):=bR B8 (by kernel_rfl) (a' aeR ag) fun y=>by kernel_rfl
abbrev zF:Shape:=⟨[aK 0 .entry,ae 4],[],53⟩
abbrev Gj:List aO:=[(.ret,⟨[au 2],[],53⟩),(.exit 2,⟨[aK 0 .entry],[],53⟩)]
noncomputable def z8(y:zF.J):bQ zF Gj:=
 bif(decide (y.1.2.1<(y.1.1.length:Int))) then
(aU y.1.1 y.1.2.1).bind fun a=>
(f145 ((a.path,()),())).bind fun b=>
(f144 ((y.1.1,b.1.1,()),())).bind fun c=>
 bif(!c.1.1) then
 some (.inr (.inl ((false,()),())))
else
 some (.inl ((y.1.1,(IntKind.i64.wrap (y.1.2.1+(1:Int))),()),()))
else
 some (.inr (.inr ((y.1.1,()),())))
noncomputable def GG:zF.J->Option (ay Gj):=bx z8
theorem ag1:aW U (an (codeOf Tryz.f90) 1 58) (a_ zF Gj GG):=bR B8 (by kernel_rfl) ag fun y=>by kernel_rfl
abbrev i90:Shape:=⟨[aK 0 .entry],[],53⟩
abbrev V7:Shape:=⟨[au 2],[],53⟩
noncomputable def f90(a:i90.J):Option V7.J:=
(GH ((a.1.1,(0:Int),()),())).bind fun b=>
(match b with
|.inl c=>
 some ((c.1.1,()),())
|.inr d=>
(GG ((d.1.1,(0:Int),()),())).bind fun e=>
(match e with
|.inl f=>
 some ((f.1.1,()),())
|.inr g=>
 some (((decide ((g.1.1.length:Int)<=(16:Int))),()),())))
noncomputable def B1:aH:=aP aj Tryz.f90 i90 V7 [] f90
theorem Iz:aF U 90 B1:=aS B8 Tryz.func90 (by kernel_rfl) (a' ag2 (a' ag1 ag)) (fun y=>by kernel_rfl) fun a=>by kernel_rfl
theorem _O{aB:Type}{ok lW:Nat->aB->Bool}:∀(xs:List aB) (j:Nat),(∀i x,xs[i]? =some x->ok (j+i) x=lW (j+i) x)->allI ok j xs=allI lW j xs:=by
 intro xs;induction xs with
 |nil=>intro j _;rfl
 |cons x r ih=>
  intro j h;simp only[allI];rw[show ok j x=lW j x from h 0 x rfl,ih (j+1) (fun i y hy=>by have:=h (i+1) y (by simpa using hy);rw[show j+(i+1)=j+1+i by omega] at this;exact this)]
theorem yh{aB:Type}{ok:Nat->aB->Bool}:∀(xs:List aB) (j:Nat),allI ok j xs=true->∀i x,xs[i]? =some x->ok (j+i) x=true:=by
 intro xs;induction xs with
 |nil=>intro j _ i x h;simp at h
 |cons y r ih=>
  intro j h i x hx;simp only[allI,Bool.and_eq_true] at h;cases i with
  |zero=>simp only[List.getElem?_cons_zero,Option.some.injEq] at hx;subst hx;exact h.1
  |succ i=>have:=ih (j+1) h.2 i x (by simpa using hx);rwa[show j+1+i=j+(i+1) by omega] at this
abbrev ij(t:List aA):Prop:=cZ t.length/\∀e,e∈t->li e
def uE(t:List aA)(i:Nat)(e:aA):Bool:=i==0||match t[i-1]? with
 |some q=>Op.bytesLess q.path e.path
 |none=>false
def iz(t:List aA)(i:Nat)(e:aA):Bool:=eJ e&&uE t i e
def dI(t:List aA):Bool:=allI (iz t) 0 t&&t.all (fun e=>kd t (i_ e.path))&&decide (t.length<=16)
theorem H3(i:Nat):decide ((i:Int)>0)=!(i==0):=by
 cases i with
 |zero=>rfl
 |succ i=>simp
theorem xM(a)(hs:ij a.1.1):f90 a=some ((dI a.1.1,()),()):=by
 obtain⟨⟨t,u⟩,cn⟩:=a;obtain⟨hl,he⟩:=hs;have hl:t.length<=2097152:=hl;have key:GH ((t,((0:Int),())),())=some (bif allI (iz t) 0 t then .inr ((t,()),()) else .inl ((false,()),())):=by
  refine gY z_ t (fun i=>((t,((i:Int),())),())) _ _ _ (fun i x hx=>?_) ?_
  ·have hi:=dd hx;have hw:aq i:=by unfold aq;omega
   have hb:=he x (List.mem_of_getElem? hx);simp only[z_,cp hi,cond_true,FW,b6,hx,Option.bind_some];rw[aa0 _ hb.1 hb.2];simp only[Option.bind_some,iz,H3];cases eJ x with
   |false=>rfl
   |true=>
    simp only[Bool.not_true,cond_false,Bool.true_and,uE];cases i with
    |zero=>simp only[beq_self_eq_true,Bool.not_true,cond_false,Option.bind_some,Bool.true_or,cond_true,b0 hw]
    |succ i=>
     have h0:(i+1==0)=false:=rfl;have j1:i<t.length:=by omega
     obtain⟨q,ar⟩:∃q,t[i]? =some q:=⟨t[i],List.getElem?_eq_getElem j1⟩;simp only[h0,Bool.not_false,cond_true,xg (i:=i) (by unfold aq;omega),b6,ar,hx,Option.bind_some,Bool.false_or,Nat.add_sub_cancel]
     cases Op.bytesLess q.path x.path with
     |false=>rfl
     |true=>simp only[Bool.not_true,cond_false,cond_true,b0 hw]
  ·simp only[z_,dM,cond_false]
 have TD:GG ((t,((0:Int),())),())=some (bif allI (fun _ e=>kd t (i_ e.path)) 0 t then .inr ((t,()),()) else .inl ((false,()),())):=by
  refine gY z8 t (fun i=>((t,((i:Int),())),())) _ _ _ (fun i x hx=>?_) ?_
  ·have hi:=dd hx;have hw:aq i:=by unfold aq;omega
   have hb:=he x (List.mem_of_getElem? hx);simp only[z8,cp hi,cond_true,b6,hx,Option.bind_some];rw[agI _ hb.1];simp only[Option.bind_some];rw[aeH _ hl];simp only[Option.bind_some,b0 hw];cases kd t (i_ x.path)<;>rfl
  ·simp only[z8,dM,cond_false]
 rw[gC] at TD;simp only[f90,key,Option.bind_some,dI];cases allI (iz t) 0 t with
 |false=>rfl
 |true=>
  simp only[cond_true,TD,Option.bind_some,Bool.true_and];cases List.all t (fun e=>kd t (i_ e.path)) with
  |false=>rfl
  |true=>have:=A0 t.length 16;simp only[cond_true,Bool.true_and];rw[<-this];rfl
theorem Oj{t:List aA}{i:Nat}{e:aA}(he:t[i]? =some e)(h:gd (t.take i))(hl:uE t i e=true):gd (t.take (i+1)):=by
 rw[List.take_add_one,he];unfold gd;refine List.pairwise_append.2 ⟨h,by simp,?_⟩
 intro a ha b hb;have hb:b=e:=by simpa using hb
 subst hb;obtain⟨k,hk⟩:=List.mem_iff_getElem?.1 ha;have BR:k<i:=by
  have:=dd hk;rw[List.length_take] at this;omega
 unfold uE at hl;have h0:(i==0)=false:=by simp;omega
 rw[h0,Bool.false_or] at hl;split at hl
 ·rename_i q ar;by_cases hkl:k=i-1
  ·have:t[k]? =some a:=by rw[List.getElem?_take,if_pos BR] at hk;exact hk
   rw[hkl,ar] at this;cases this;exact hl
  ·have nP:(t.take i)[i-1]? =some q:=by rw[List.getElem?_take,if_pos (by omega)];exact ar
   have:=List.pairwise_iff_getElem.1 h k (i-1) (dd hk) (dd nP) (by omega)
   rw[(List.getElem?_eq_some_iff.1 hk).2,(List.getElem?_eq_some_iff.1 nP).2] at this;exact ud _ _ _ this hl
 ·cases hl
theorem QR{t:List aA}(h:allI (iz t) 0 t=true):gd t:=by
 have:∀i,i<=t.length->gd (t.take i):=by
  intro i;induction i with
  |zero=>intro _;simp[gd]
  |succ i ih=>
   intro hi;have he:t[i]? =some t[i]:=List.getElem?_eq_getElem hi;have:=yh t 0 h i _ he;rw[Nat.zero_add] at this;simp only[iz,Bool.and_eq_true] at this;exact Oj he (ih (by omega)) this.2
 have:=this t.length (Nat.le_refl _);rwa[List.take_length] at this
theorem aaF{t:List aA}{i:Nat}{e:aA}{p:F}(ha:gd t)(he:t[i]? =some e)(hp:Op.bytesLess p e.path=true):kd (t.take i) p=kd t p:=by
 have hi:=dd he;have h1:=lw (p:=p) ha i e he;rw[agj hp] at h1;have hle:b4 t p<=i:=by
  have:¬i<b4 t p:=by simpa using h1.symm
  omega
 have my:b4 (t.take i) p=b4 t p:=by
  by_cases hlt:b4 t p=i
  ·have hlen:(t.take i).length=i:=by rw[List.length_take];omega
   have h2:=rI (t.take i) p;rw[hlen] at h2;by_cases h3:b4 (t.take i) p<i
   ·obtain⟨q,ar⟩:∃q,(t.take i)[b4 (t.take i) p]? =some q:=⟨_,List.getElem?_eq_getElem (by rw[hlen];exact h3)⟩
    have ax:=lw (p:=p) (ha.take i) _ q ar;have nP:t[b4 (t.take i) p]? =some q:=by rw[List.getElem?_take,if_pos h3] at ar;exact ar
    have bk:=lw (p:=p) ha _ q nP;rw[ax] at bk;have:decide (b4 (t.take i) p<b4 (t.take i) p)=false:=by simp
    rw[this] at bk;have:¬b4 (t.take i) p<b4 t p:=by simpa using bk.symm
    omega
   ·omega
  ·have hlt:b4 t p<i:=by omega
   obtain⟨q,ar⟩:∃q,t[b4 t p]? =some q:=⟨_,List.getElem?_eq_getElem (by omega)⟩
   have nP:(t.take i)[b4 t p]? =some q:=by rw[List.getElem?_take,if_pos hlt];exact ar
   have ax:=lw (p:=p) ha _ q ar;have bk:=lw (p:=p) (ha.take i) _ q nP;have dw:decide (b4 t p<b4 t p)=false:=by simp
   rw[ax,dw] at bk;have cl:¬b4 t p<b4 (t.take i) p:=by simpa using bk.symm
   by_cases iq:b4 (t.take i) p<b4 t p
   ·obtain⟨r,hr⟩:∃r,t[b4 (t.take i) p]? =some r:=⟨_,List.getElem?_eq_getElem (by omega)⟩
    have dk:(t.take i)[b4 (t.take i) p]? =some r:=by rw[List.getElem?_take,if_pos (by omega)];exact hr
    have h8:=lw (p:=p) ha _ r hr;have hK:=lw (p:=p) (ha.take i) _ r dk;have Ko:decide (b4 (t.take i) p<b4 (t.take i) p)=false:=by simp
    rw[h8,Ko] at hK;have:¬b4 (t.take i) p<b4 t p:=by simpa using hK
    omega
   ·omega
 unfold kd;rw[my];congr 1
 by_cases hlt:b4 t p<i
 ·rw[List.getElem?_take,if_pos hlt]
 ·have:b4 t p=i:=by omega
  rw[this,he,List.getElem?_take,if_neg (by omega)]
  have:(e.path==p)=false:=by
   cases h:(e.path==p) with
   |false=>rfl
   |true=>rw[eq_of_beq h,Ao] at hp;cases hp
  simp[this]
def kU(t:List aA)(p:F):Bool:=kd t (bif fT p then i_ p else [])
theorem Y_(a)(hs:cZ a.1.1.length)(hp:cZ a.1.2.1.length)(ha:gd a.1.1):f153 a=some ((kU a.1.1 a.1.2.1,()),()):=by
 obtain⟨⟨t,p,u⟩,cn⟩:=a;have e1:=acS ((p,()),()) hp;have e2:=Lg ((t,((bif fT p then i_ p else []),())),()) hs ha
 simp only[f153,e1,e2,Option.bind_some,kU,kd,jP,b6];generalize(bif fT p then i_ p else [])=up
 cases (up==[]) with
 |true=>rfl
 |false=>
  cases ap:t[b4 t up]? with
  |none=>rfl
  |some e=>simp only[cond_false,cond_true,Option.bind_some,Bool.false_or];cases (e.path==up)<;>rfl
theorem abc(t:List aA):dI t=(decide (t.length<=16)&&allI (fun i e=>iz t i e&&kU (t.take i) e.path) 0 t):=by
 unfold dI;rw[EG];cases h:allI (iz t) 0 t with
 |false=>simp
 |true=>
  have ha:=QR h;have:allI (fun i e=>kU (t.take i) e.path) 0 t=t.all (fun e=>kd t (i_ e.path)):=by
   rw[<-gC _ 0 t];refine _O t 0 (fun i e he=>?_)
   rw[Nat.zero_add];have ft:=yh t 0 h i e he;rw[Nat.zero_add] at ft;have ao2:fT e.path=true:=by
    unfold iz eJ at ft;simp only[Bool.and_eq_true] at ft;exact ft.1.1
   unfold kU;rw[ao2,cond_true];cases hu:(i_ e.path==[]) with
   |true=>unfold kd;rw[hu];rfl
   |false=>exact aaF ha he (acW hu)
  rw[this];simp only[Bool.true_and];rw[Bool.and_comm]
theorem pm(a)(hs:ij a.1.1):f105 a=some ((dI a.1.1,()),()):=by
 obtain⟨⟨t,u⟩,cn⟩:=a;obtain⟨hl,he⟩:=hs;have hl:t.length<=2097152:=hl;have key:FQ ((t,(t,((t.length:Int),((0:Int),())))),())=some (bif allI (fun i e=>iz t i e&&kU (t.take i) e.path) 0 t then .inr ((),()) else .inl ((false,()),())):=by
  have:=ly zl t (fun i (_:Unit)=>((t,(t,((t.length:Int),((i:Int),())))),())) (fun i e _=>some (bif iz t i e&&kU (t.take i) e.path then .inl () else .inr ((.inl ((false,()),())):ay ug))) (fun _=>(.inr ((),()):ay ug))
   (fun i _=>gd (t.take i)) () (by simp[gd]) (fun i x _ hx dl=>?_) (fun _ _=>?_)
  ·exact this.trans (w1 (fun i e=>iz t i e&&kU (t.take i) e.path) (fun _ s=>s) _ _ t 0 ())
  ·have hi:=dd hx;have hw:aq i:=by unfold aq;omega
   have hb:=he x (List.mem_of_getElem? hx);refine⟨?_,fun aG af=>?_⟩
   ·have oY:=Y_ ((t.take i,(x.path,())),()) (show(t.take i).length<=2097152 by rw[List.length_take];omega) hb.1 dl
    simp only[zl,cp hi,cond_true,b6,hx,Option.bind_some,DD];rw[aa4 _ hb.1 hb.2];simp only[Option.bind_some,iz,H3];cases eJ x with
    |false=>rfl
    |true=>
     simp only[Bool.not_true,cond_false,Bool.true_and,uE];cases i with
     |zero=>
      have d':br t 0 0=some (t.take 0):=hO (b:=0) (Nat.zero_le _);have d':br t 0 ((0:Nat):Int)=some (t.take 0):=d';simp only[beq_self_eq_true,Bool.not_true,cond_false,d',Option.bind_some,oY,Bool.true_or,Bool.true_and];cases kU (t.take 0) x.path with
      |false=>rfl
      |true=>simp only[Bool.not_true,cond_false,cond_true,b0 hw];rfl
     |succ i=>
      have h0:(i+1==0)=false:=rfl;have j1:i<t.length:=by omega
      obtain⟨q,ar⟩:∃q,t[i]? =some q:=⟨t[i],List.getElem?_eq_getElem j1⟩;have d':br t 0 ((i+1:Nat):Int)=some (t.take (i+1)):=hO (by omega)
      simp only[h0,Bool.not_false,cond_true,xg (i:=i) (by unfold aq;omega),b6,ar,hx,Option.bind_some,Bool.false_or,Nat.add_sub_cancel]
      cases Op.bytesLess q.path x.path with
      |false=>rfl
      |true=>
       simp only[Bool.not_true,cond_false,cond_true,d',Option.bind_some,oY,Bool.true_and];cases kU (t.take (i+1)) x.path with
       |false=>rfl
       |true=>simp only[Bool.not_true,cond_false,cond_true,b0 hw];rfl
   ·simp only[Option.some.injEq] at af;cases ar:(iz t i x&&kU (t.take i) x.path) with
    |false=>rw[ar] at af;cases af
    |true=>
     simp only[Bool.and_eq_true] at ar;have:=ar.1;simp only[iz,Bool.and_eq_true] at this;exact Oj hx dl this.2
  ·simp only[zl,dM,cond_false]
 have wg:decide ((t.length:Int)>16)=!decide (t.length<=16):=by by_cases h:t.length<=16<;>simp only[h,decide_true,decide_false,Bool.not_true,Bool.not_false,decide_eq_true_eq,decide_eq_false_iff_not]<;>omega
 simp only[f105,wg,key,Option.bind_some];rw[abc];cases decide (t.length<=16)<;>cases allI (fun i e=>iz t i e&&kU (t.take i) e.path) 0 t<;>rfl
abbrev i202:Shape:=⟨[aK 0 .entry],[],6⟩
abbrev Sy:Shape:=⟨[bc 2 3000128],[bb 3000128 .entry 2 0],6⟩
noncomputable def f202(a:i202.J):Option Sy.J:=
(cy 48 ([]:List aA) a.1.1).bind fun b=>
 some (((),()),b,())
noncomputable def Uw:aH:=aP aj Tryz.f202 i202 Sy [] f202
theorem ajD:aF U 202 Uw:=aS g0 Tryz.func202 (by kernel_rfl) ag (fun y=>by kernel_rfl) fun a=>by kernel_rfl
noncomputable abbrev ama:bh:=[(90,B1),(194,Ig),(202,Uw)]
theorem Is:a7 U (bg aj ama):=bf ⟨Iz,z194,ajD,⟨⟩⟩
abbrev MJ:Shape:=⟨[aK 1 .entry,bc 6 3000384,ae 7,ae 8,au 9],[bb 3000384 .entry 6 0],69⟩
abbrev Mr:List aO:=[(.norm,⟨[aK 1 .entry,bc 6 3000384,ae 7,ae 8,au 9,au 28,au 29,au 47],[bb 3000384 .entry 6 0],69⟩)]
noncomputable def Dz(y:MJ.J):Option (ay Mr):=
 bif y.1.2.2.2.2.1 then
(a6 y.2.1.length y.1.2.2.2.1).bind fun a=>
(y.2.1[a]?).bind fun b=>
 bif(b.kind !=(1:Int)) then
 some ((y.1.1,(),y.1.2.2.1,y.1.2.2.2.1,y.1.2.2.2.2.1,y.1.2.2.2.2.1,true,true,()),y.2.1,())
else
(aU y.1.1 y.1.2.2.1).bind fun c=>
(a6 y.2.1.length y.1.2.2.2.1).bind fun d=>
(y.2.1[d]?).bind fun e=>
 some ((y.1.1,(),y.1.2.2.1,y.1.2.2.2.1,y.1.2.2.2.2.1,y.1.2.2.2.2.1,true,(!((c.path==e.path)&&((c.kind==e.kind)&&((c.mode==e.mode)&&(c.text==e.text))))),()),y.2.1,())
else
 some ((y.1.1,(),y.1.2.2.1,y.1.2.2.2.1,y.1.2.2.2.2.1,y.1.2.2.2.2.1,false,false,()),y.2.1,())
theorem abI:aW U (an (c8 (an (codeOf Tryz.f159) 1 58)) 116 7460) (a_ MJ Mr Dz):=cS Is (by kernel_rfl) ag fun y=>by kernel_rfl
abbrev uh:Shape:=⟨[aK 1 .entry,bc 6 3000384,ae 7],[bb 3000384 .entry 6 0],69⟩
abbrev og:List aO:=[(.ret,⟨[bc 4 3000256,au 5],[bb 3000256 .entry 4 0],69⟩),(.exit 0,⟨[bc 6 3000384],[bb 3000384 .entry 6 0],69⟩)]
noncomputable def zc(y:uh.J):bQ uh og:=
 bif(decide (y.1.2.2.1<(y.1.1.length:Int))) then
(aU y.1.1 y.1.2.2.1).bind fun a=>
(f194 ((y.2.1,a.path,()),())).bind fun b=>
(Dz ((y.1.1,(),y.1.2.2.1,b.1.1,b.1.2.1,()),y.2.1,())).bind fun c=>
 bif c.1.2.2.2.2.2.2.2.1 then
 some (.inr (.inl (((),false,()),([]:List aA),())))
else
 bif(!c.1.2.2.2.2.1) then
(br c.2.1 (0:Int) c.1.2.2.2.1).bind fun d=>
(cy 48 ([]:List aA) d).bind fun e=>
(aU c.1.1 c.1.2.2.1).bind fun f=>
(cy 48 e ([f]:List aA)).bind fun g=>
(br c.2.1 c.1.2.2.2.1 (c.2.1.length:Int)).bind fun h=>
(cy 48 g h).bind fun i=>
 some (.inl ((c.1.1,(),(IntKind.i64.wrap (c.1.2.2.1+(1:Int))),()),i,()))
else
 some (.inl ((c.1.1,(),(IntKind.i64.wrap (c.1.2.2.1+(1:Int))),()),c.2.1,()))
else
 some (.inr (.inr (((),()),y.2.1,())))
noncomputable def FG:uh.J->Option (ay og):=bx zc
theorem afo:aW U (an (codeOf Tryz.f159) 1 58) (a_ uh og FG):=bR Is (by kernel_rfl) (a' abI ag) fun y=>by kernel_rfl
abbrev i159:Shape:=⟨[aK 0 .entry,aK 1 .entry],[],69⟩
abbrev S1:Shape:=⟨[bc 4 3000256,au 5],[bb 3000256 .entry 4 0],69⟩
noncomputable def f159(a:i159.J):Option S1.J:=
(f202 ((a.1.1,()),())).bind fun b=>
(FG ((a.1.2.1,(),(0:Int),()),b.2.1,())).bind fun c=>
(match c with
|.inl d=>
 some (((),d.1.2.1,()),d.2.1,())
|.inr e=>
(f90 ((e.2.1,()),())).bind fun f=>
 some (((),f.1.1,()),e.2.1,()))
noncomputable def UV:aH:=aP aj Tryz.f159 i159 S1 [] f159
theorem z159:aF U 159 UV:=aS Is Tryz.func159 (by kernel_rfl) (a' afo ag) (fun y=>by kernel_rfl) fun a=>by kernel_rfl
noncomputable abbrev aqJ:bh:=[(87,JV),(88,JU),(89,Xt),(90,B1)]
theorem aq9:a7 U (bg aj aqJ):=bf ⟨z87,VS,ank,Iz,⟨⟩⟩
abbrev i50:Shape:=⟨[cB 0 [ai,ai,cW .need,cW .entry]],[],23⟩
abbrev Wn:Shape:=⟨[au 2],[],23⟩
noncomputable def f50(a:i50.J):Option Wn.J:=
(f87 ((a.1.1.1,()),())).bind fun b=>
 bif b.1.1 then
(f88 ((a.1.1.2.1,()),())).bind fun c=>
 bif c.1.1 then
(f89 ((a.1.1.1,a.1.1.2.2.1,()),())).bind fun d=>
 bif d.1.1 then
(f90 ((a.1.1.2.2.2.1,()),())).bind fun e=>
 some ((e.1.1,()),())
else
 some ((false,()),())
else
 some ((false,()),())
else
 some ((false,()),())
noncomputable def JW:aH:=aP aj Tryz.f50 i50 Wn [] f50
theorem VT:aF U 50 JW:=aS aq9 Tryz.func50 (by kernel_rfl) ag (fun y=>by kernel_rfl) fun a=>by kernel_rfl
noncomputable abbrev aqI:bh:=[(99,JT),(100,Bd),(101,Q2),(103,Q1),(105,vw)]
theorem X0:a7 U (bg aj aqI):=bf ⟨VR,Hj,agE,agD,z105,⟨⟩⟩
abbrev P3:Shape:=⟨[aM 1 1 0],[aL 1 [ai,ai,cW .need,cW .entry]],36⟩
abbrev PU:List aO:=[(.norm,⟨[aM 1 1 0,au 18],[aL 1 [ai,ai,cW .need,cW .entry]],36⟩)]
noncomputable def GV(y:P3.J):Option (ay PU):=
(f99 ((y.2.1.1,()),())).bind fun a=>
 bif(!(!a.1.1)) then
(f100 ((y.2.1.2.1,()),())).bind fun b=>
 bif(!(!b.1.1)) then
 some (((),(decide ((y.2.1.2.2.1.length:Int)>(6:Int))),()),(y.2.1.1,y.2.1.2.1,y.2.1.2.2.1,y.2.1.2.2.2.1,()),())
else
 some (((),true,()),(y.2.1.1,y.2.1.2.1,y.2.1.2.2.1,y.2.1.2.2.2.1,()),())
else
 some (((),true,()),(y.2.1.1,y.2.1.2.1,y.2.1.2.2.1,y.2.1.2.2.2.1,()),())
theorem ahd:aW U (an (codeOf Tryz.f55) 1 12) (a_ P3 PU GV):=cS X0 (by kernel_rfl) ag fun y=>by kernel_rfl
abbrev i55:Shape:=⟨[cB 0 [ai,ai,cW .need,cW .entry]],[],36⟩
abbrev Wm:Shape:=⟨[au 2],[],36⟩
noncomputable def f55(a:i55.J):Option Wm.J:=
(GV (((),()),(a.1.1.1,a.1.1.2.1,a.1.1.2.2.1,a.1.1.2.2.2.1,()),())).bind fun b=>
 bif b.1.2.1 then
 some ((false,()),())
else
(Al ((b.2.1.2.2.1,(),()),())).bind fun c=>
 bif c.1.1 then
(Ak ((b.2.1.2.2.1,(),([b.2.1.1]:List F),()),())).bind fun d=>
 bif(!d.1.1) then
(f105 ((b.2.1.2.2.2.1,()),())).bind fun e=>
 some ((e.1.1,()),())
else
 some ((false,()),())
else
 some ((false,()),())
noncomputable def B5:aH:=aP aj Tryz.f55 i55 Wm [] f55
theorem IC:aF U 55 B5:=aS X0 Tryz.func55 (by kernel_rfl) (a' ahd ag) (fun y=>by kernel_rfl) fun a=>by kernel_rfl
noncomputable abbrev ajb:bh:=[(55,B5)]
theorem RG:a7 U (bg aj ajb):=bf ⟨IC,⟨⟩⟩
abbrev xQ:Shape:=⟨[(1,.ak (.fn 55 [])),aK 7 .pack,ae 8,ae 9],[],18⟩
abbrev DO:List aO:=[(.ret,⟨[au 4],[],18⟩),(.exit 0,⟨[],[],18⟩)]
noncomputable def ya(y:xQ.J):bQ xQ DO:=
 bif(decide (y.1.2.2.2.1<y.1.2.2.1)) then
(aU y.1.2.1 y.1.2.2.2.1).bind fun a=>
(f55 (((a.name,a.a8,a.bm,a.bW,()),()),())).bind fun b=>
 bif(!b.1.1) then
 some (.inr (.inl ((false,()),())))
else
 some (.inl (((),y.1.2.1,y.1.2.2.1,(IntKind.i64.wrap (y.1.2.2.2.1+(1:Int))),()),()))
else
 some (.inr (.inr ((),())))
noncomputable def Ec:xQ.J->Option (ay DO):=bx ya
theorem adl:aW U (an (codeOf Tryz.f54) 1 26) (a_ xQ DO Ec):=bR RG (by kernel_rfl) ag fun y=>by kernel_rfl
abbrev Rq:Shape:=⟨[aK 0 .pack,(1,.ak (.fn 55 []))],[],18⟩
abbrev Rh:Shape:=⟨[au 4],[],18⟩
noncomputable def AI(a:Rq.J):Option Rh.J:=
(Ec (((),a.1.1,(a.1.1.length:Int),(0:Int),()),())).bind fun b=>
(match b with
|.inl c=>
 some ((c.1.1,()),())
|.inr d=>
 some ((true,()),()))
noncomputable def RF:aH:=aP aj Tryz.f54 Rq Rh [] AI
theorem aie:aF U 54 RF:=aS RG Tryz.func54 (by kernel_rfl) (a' adl ag) (fun y=>by kernel_rfl) fun a=>by kernel_rfl
abbrev zN:Shape:=⟨[aK 0 .pack,ae 3],[],22⟩
abbrev Gr:List aO:=[(.ret,⟨[au 2],[],22⟩),(.exit 0,⟨[],[],22⟩)]
noncomputable def Af(y:zN.J):bQ zN Gr:=
 bif(decide (y.1.2.1<(y.1.1.length:Int))) then
(aU y.1.1 (IntKind.i64.wrap (y.1.2.1-(1:Int)))).bind fun a=>
(aU y.1.1 y.1.2.1).bind fun b=>
 bif(!(Op.bytesLess a.name b.name)) then
 some (.inr (.inl ((false,()),())))
else
 some (.inl ((y.1.1,(IntKind.i64.wrap (y.1.2.1+(1:Int))),()),()))
else
 some (.inr (.inr ((),())))
noncomputable def GO:zN.J->Option (ay Gr):=bx Af
theorem ahc:aW U (an (codeOf Tryz.f56) 1 26) (a_ zN Gr GO):=bR g0 (by kernel_rfl) ag fun y=>by kernel_rfl
abbrev i56:Shape:=⟨[aK 0 .pack],[],22⟩
abbrev Wl:Shape:=⟨[au 2],[],22⟩
noncomputable def f56(a:i56.J):Option Wl.J:=
(GO ((a.1.1,(1:Int),()),())).bind fun b=>
(match b with
|.inl c=>
 some ((c.1.1,()),())
|.inr d=>
 some ((true,()),()))
noncomputable def XE:aH:=aP aj Tryz.f56 i56 Wl [] f56
theorem ant:aF U 56 XE:=aS g0 Tryz.func56 (by kernel_rfl) (a' ahc ag) (fun y=>by kernel_rfl) fun a=>by kernel_rfl
abbrev ky(p:ba):Prop:=cZ p.name.length/\cZ p.a8.length/\sT p.bm/\ij p.bW
abbrev kk(ps:List ba):Prop:=cZ ps.length/\∀p,p∈ps->ky p
def cH(p:ba):Bool:=is p.name&&dY p.a8&&pN p.name p.bm&&dI p.bW
theorem DL(a)(hb:ky ⟨a.1.1.1,a.1.1.2.1,a.1.1.2.2.1,a.1.1.2.2.2.1⟩):f50 a=some ((cH ⟨a.1.1.1,a.1.1.2.1,a.1.1.2.2.1,a.1.1.2.2.2.1⟩,()),()):=by
 obtain⟨⟨⟨n,v,ns,t,u⟩,cn⟩,nI⟩:=a;obtain⟨h1,h2,h3,ax⟩:=hb;have h1:n.length<=2097152:=h1;have e1:=Np ((n,()),()) (show n.length<=1099511627776 by omega)
 have e2:=Lh ((v,()),()) h2;have bz:=aaV ((n,(ns,())),()) h3 h1;have dw:=xM ((t,()),()) ax;simp only[f50,e1,e2,bz,dw,Option.bind_some,cH];cases is n<;>cases dY v<;>cases pN n ns<;>rfl
theorem xj(a)(hb:ky ⟨a.1.1.1,a.1.1.2.1,a.1.1.2.2.1,a.1.1.2.2.2.1⟩):f55 a=some ((cH ⟨a.1.1.1,a.1.1.2.1,a.1.1.2.2.1,a.1.1.2.2.2.1⟩,()),()):=by
 obtain⟨⟨⟨n,v,ns,t,u⟩,cn⟩,nI⟩:=a;obtain⟨h1,h2,h3,ax⟩:=hb;have h1:n.length<=2097152:=h1;have e1:=K4 ((n,()),()) (show n.length<=1099511627776 by omega)
 have e2:=Cx ((v,()),()) h2;have bz:=aa6 ((ns,((),())),()) h3;have dw:=pm ((t,()),()) ax;have gi:=Zs ((ns,((),(([n]:List F),()))),()) h3 (Nat.le_refl _);have cl:decide ((ns.length:Int)>6)=!decide (ns.length<=6):=by by_cases h:ns.length<=6<;>simp only[h,decide_true,decide_false,Bool.not_true,Bool.not_false,decide_eq_true_eq,decide_eq_false_iff_not]<;>omega
 have Z:jt [] (n::ns.map (·.name))=jt [n] (ns.map (·.name)):=by simp[jt]
 simp only[f55,GV,e1,e2,Option.bind_some,cH,pN,Z,cl,Bool.not_not];cases is n with
 |false=>rfl
 |true=>
  cases dY v with
  |false=>rfl
  |true=>
   cases decide (ns.length<=6) with
   |false=>simp only[cond_true,Bool.not_false,Option.bind_some,Bool.and_false,Bool.false_and]
   |true=>
    simp only[cond_true,Bool.not_true,cond_false,Option.bind_some,bz,gi,dw,Bool.true_and,Bool.and_true];cases List.all ns dp<;>cases jt [n] (ns.map (·.name))<;>rfl
theorem aa5(a)(hs:kk a.1.1):AI a=some ((a.1.1.all cH,()),()):=by
 obtain⟨⟨ps,u⟩,cn⟩:=a;obtain⟨hl,hn⟩:=hs;have hl:ps.length<=2097152:=hl;have key:Ec (((),(ps,((ps.length:Int),((0:Int),())))),())=some (bif allI (fun _ n=>cH n) 0 ps then .inr ((),()) else .inl ((false,()),())):=by
  refine gY ya ps (fun i=>(((),(ps,((ps.length:Int),((i:Int),())))),())) _ _ _ (fun i x hx=>?_) ?_
  ·have hi:=dd hx;have hw:aq i:=by unfold aq;omega
   have hb:=hn x (List.mem_of_getElem? hx);simp only[ya,cp hi,cond_true,b6,hx,Option.bind_some];rw[xj _ hb];simp only[Option.bind_some,b0 hw];cases cH x<;>rfl
  ·simp only[ya,dM,cond_false]
 rw[gC] at key;simp only[AI,key,Option.bind_some];cases List.all ps cH<;>rfl
def nw(ps:List ba)(i:Nat)(x:ba):Bool:=match ps[i]? with
 |some q=>Op.bytesLess q.name x.name
 |none=>false
def lc(ps:List ba):Bool:=allI (nw ps) 0 ps.tail
theorem Y9(a)(hs:cZ a.1.1.length):f56 a=some ((lc a.1.1,()),()):=by
 obtain⟨⟨ps,u⟩,cn⟩:=a;have hs:ps.length<=2097152:=hs;have key:GO ((ps,((1:Int),())),())=some (bif allI (nw ps) 0 ps.tail then .inr ((),()) else .inl ((false,()),())):=by
  refine gY Af ps.tail (fun i=>((ps,(((i+1:Nat):Int),())),())) _ _ _ (fun i x hx=>?_) ?_
  ·have qq:ps[i+1]? =some x:=by rw[List.getElem?_tail] at hx;exact hx
   have hi:=dd qq;have hw:aq (i+1):=by unfold aq;omega
   obtain⟨q,ar⟩:∃q,ps[i]? =some q:=⟨ps[i],List.getElem?_eq_getElem (by omega)⟩
   simp only[Af,cp hi,cond_true,xg (i:=i) (by unfold aq;omega),b6,ar,qq,Option.bind_some,b0 hw,nw]
   cases Op.bytesLess q.name x.name<;>rfl
  ·have:decide (((ps.tail.length+1:Nat):Int)<(ps.length:Int))=false:=by
    simp only[decide_eq_false_iff_not,List.length_tail];omega
   simp only[Af,this,cond_false]
 simp only[f56,key,Option.bind_some,lc];cases allI (nw ps) 0 ps.tail<;>rfl
def l8(a b:aA):Bool:=a.path==b.path&&(a.kind==b.kind&&(a.mode==b.mode&&a.text==b.text))
def nG(e q:aA):Bool:=e.kind !=1||!l8 e q
theorem aee(a b:aA):l8 a b=l8 b a:=by
 unfold l8;have h1:(a.path==b.path)=(b.path==a.path):=BEq.comm;have h2:(a.kind==b.kind)=(b.kind==a.kind):=BEq.comm;have h3:(a.mode==b.mode)=(b.mode==a.mode):=BEq.comm;have ax:(a.text==b.text)=(b.text==a.text):=BEq.comm;rw[h1,h2,h3,ax]
theorem agf(e q:aA):nG e q=(q.kind !=1||!l8 e q):=by
 unfold nG;cases h:l8 e q with
 |false=>simp
 |true=>
  unfold l8 at h;simp only[Bool.and_eq_true] at h;rw[show e.kind=q.kind from eq_of_beq h.2.1]
def kc(t:List aA)(k:Nat)(e:aA):List aA:=t.take k++[e]++t.drop k
def ho(out:List aA):List aA->Option (List aA)
 |[]=>some out
 |e::r=>match out[b4 out e.path]? with
  |some q=>bif q.path==e.path then(bif nG e q then none else ho out r) else ho (kc out (b4 out e.path) e) r
  |none=>ho (kc out (b4 out e.path) e) r
theorem M5(t:List aA)(k:Nat)(e:aA)(h:k<=t.length):(kc t k e).length=t.length+1:=by
 unfold kc;simp only[List.length_append,List.length_take,List.length_cons,List.length_nil,List.length_drop];omega
theorem M4{t:List aA}{k:Nat}{e x:aA}(h:x∈kc t k e):x=e\/x∈t:=by
 unfold kc at h;rcases List.mem_append.1 h with h|h
 ·rcases List.mem_append.1 h with h|h
  ·exact .inr (List.mem_of_mem_take h)
  ·exact .inl (by simpa using h)
 ·exact .inr (List.mem_of_mem_drop h)
def ia(out:List aA)(e:aA):Option (List aA):=match out[b4 out e.path]? with
 |some q=>bif q.path==e.path then(bif nG e q then none else some out) else some (kc out (b4 out e.path) e)
 |none=>some (kc out (b4 out e.path) e)
theorem xc(out:List aA)(e:aA)(r:List aA):ho out (e::r)=(ia out e).bind fun B=>ho B r:=by
 unfold ia;rw[ho];cases out[b4 out e.path]? with
 |none=>rfl
 |some q=>
  simp only;cases (q.path==e.path) with
  |false=>rfl
  |true=>cases nG e q<;>rfl
theorem xm{out B:List aA}{e:aA}(h:ia out e=some B):B.length<=out.length+1:=by
 unfold ia at h;split at h
 ·rename_i q ar;cases hp:(q.path==e.path) with
  |true=>
   rw[hp] at h;cases hc:nG e q with
   |true=>rw[hc] at h;cases h
   |false=>rw[hc] at h;cases h;omega
  |false=>rw[hp] at h;cases h;rw[M5 _ _ _ (rI _ _)];omega
 ·cases h;rw[M5 _ _ _ (rI _ _)];omega
theorem Dc{out B:List aA}{e x:aA}(h:ia out e=some B)(hx:x∈B):x=e\/x∈out:=by
 unfold ia at h;split at h
 ·rename_i q ar;cases hp:(q.path==e.path) with
  |true=>
   rw[hp] at h;cases hc:nG e q with
   |true=>rw[hc] at h;cases h
   |false=>rw[hc] at h;cases h;exact .inr hx
  |false=>rw[hp] at h;cases h;exact M4 hx
 ·cases h;exact M4 hx
theorem agn{t:List aA}{e:aA}(ha:gd t)(hn:jP t e.path=false):gd (kc t (b4 t e.path) e):=by
 have TP:∀a,a∈t.take (b4 t e.path)->Op.bytesLess a.path e.path=true:=by
  intro a h;obtain⟨k,hk⟩:=List.mem_iff_getElem?.1 h;have W0:k<b4 t e.path:=by have:=dd hk;rw[List.length_take] at this;omega
  have Jn:t[k]? =some a:=by rw[List.getElem?_take,if_pos W0] at hk;exact hk
  rw[lw ha k a Jn];simpa using W0
 have Ru:∀a,a∈t.drop (b4 t e.path)->Op.bytesLess e.path a.path=true:=by
  intro a h;obtain⟨k,hk⟩:=List.mem_iff_getElem?.1 h;rw[List.getElem?_drop] at hk;have h1:=lw (p:=e.path) ha _ a hk;have h2:Op.bytesLess a.path e.path=false:=by rw[h1];simp
  refine ahP _ _ h2 ?_
  cases ar:(a.path==e.path) with
  |false=>rfl
  |true=>
   exfalso
   cases k with
   |zero=>
    unfold jP at hn;rw[Nat.add_zero] at hk;rw[hk] at hn;simp only[ar] at hn;cases hn
   |succ k=>
    have hlt:=dd hk;obtain⟨q,Jc⟩:∃q,t[b4 t e.path]? =some q:=⟨_,List.getElem?_eq_getElem (by omega)⟩
    have h3:=List.pairwise_iff_getElem.1 ha (b4 t e.path) (b4 t e.path+(k+1)) (dd Jc) hlt (by omega)
    rw[(List.getElem?_eq_some_iff.1 Jc).2,(List.getElem?_eq_some_iff.1 hk).2] at h3;have ax:=lw (p:=e.path) ha _ q Jc;rw[<-eq_of_beq ar,h3] at ax;simp at ax
 unfold gd kc;refine List.pairwise_append.2 ⟨List.pairwise_append.2 ⟨ha.take _,by simp,?_⟩,List.Pairwise.sublist (List.drop_sublist _ _) ha,?_⟩
 ·intro a h b hb;have hb:b=e:=by simpa using hb
  subst hb;exact TP a h
 ·intro a h b hb;rcases List.mem_append.1 h with h|h
  ·exact ud _ _ _ (TP a h) (Ru b hb)
  ·have h:a=e:=by simpa using h
   subst h;exact Ru b hb
theorem abf{out B:List aA}{e:aA}(ha:gd out)(h:ia out e=some B):gd B:=by
 unfold ia at h;have hno:∀{b:Bool},jP out e.path=b->b=false->gd (kc out (b4 out e.path) e):=fun h1 h2=>agn ha (h1.trans h2)
 split at h
 ·rename_i q ar;cases hp:(q.path==e.path) with
  |true=>
   rw[hp] at h;cases hc:nG e q with
   |true=>rw[hc] at h;cases h
   |false=>rw[hc] at h;cases h;exact ha
  |false=>rw[hp] at h;cases h;exact hno (by unfold jP;rw[ar]) hp
 ·rename_i ar;cases h;exact hno (by unfold jP;rw[ar]) rfl
theorem acO(a)(ha:ij a.1.1)(hb:ij a.1.2.1)(hl:a.1.1.length+a.1.2.1.length<=2097152):f159 a=
  some (match ho a.1.1 a.1.2.1 with|some out=>(((),(dI out,())),(out,()))|none=>(((),(false,())),(([]:List aA),()))):=by
 obtain⟨⟨xs,bd,u⟩,cn⟩:=a;have hl:xs.length+bd.length<=2097152:=hl;have hc:f202 ((xs,()),())=some (((),()),(xs,())):=by
  simp only[f202];rw[dZ (by decide) (by unfold aq;simp only[List.length_nil];omega)]
  rfl
 have key:FG ((bd,((),((0:Int),()))),(xs,()))=_:=ly zc bd (fun i (out:List aA)=>((bd,((),((i:Int),()))),(out,())))
  (fun i e out=>some (match ia out e with|some B=>.inl B|none=>.inr ((.inl (((),(false,())),(([]:List aA),()))):ay og))) (fun out=>((.inr (((),()),(out,()))):ay og))
  (fun i out=>out.length<=xs.length+i/\∀e,e∈out->li e) xs ⟨Nat.le_refl _,ha.2⟩ (fun i x out hx dl=>?_) (fun out _=>?_)
 ·have fold:∀(r:List aA) (k:Nat) (out:List aA),eI (fun i e out=>some (match ia out e with|some B=>.inl B|none=>.inr ((.inl (((),(false,())),(([]:List aA),()))):ay og))) (fun out=>((.inr (((),()),(out,()))):ay og)) k r out=
    some (match ho out r with|some B=>.inr (((),()),(B,()))|none=>.inl (((),(false,())),(([]:List aA),()))):=by
   intro r;induction r with
   |nil=>intro k out;rfl
   |cons e r ih=>
    intro k out;rw[xc];simp only[eI];cases ia out e with
    |none=>rfl
    |some B=>simp only[Option.bind_some];exact ih _ _
  have mem:∀(r:List aA) (out B:List aA),(∀e,e∈r->li e)->(∀e,e∈out->li e)->ho out r=some B->B.length<=out.length+r.length/\∀e,e∈B->li e:=by
   intro r;induction r with
   |nil=>intro out B _ h2 h;cases h;exact⟨Nat.le_refl _,h2⟩
   |cons e r ih=>
    intro out B h1 h2 h;rw[xc] at h;obtain⟨o1,h3,ax⟩:=Option.bind_eq_some_iff.1 h;have bk:=ih o1 B (fun x hx=>h1 x (List.mem_cons_of_mem _ hx)) (fun x hx=>by
     rcases Dc h3 hx with rfl|h
     ·exact h1 x List.mem_cons_self
     ·exact h2 x h) ax
    have cl:=xm h3;exact⟨by simp only[List.length_cons];omega,bk.2⟩
  rw[fold] at key;simp only[f159,hc,Option.bind_some,key];cases hj:ho xs bd with
  |none=>rfl
  |some B=>
   have hm:=mem bd xs B hb.2 ha.2 hj;simp only[Option.bind_some];rw[xM _ ⟨show B.length<=2097152 by omega,hm.2⟩]
   rfl
 ·have hi:=dd hx;have hw:aq i:=by unfold aq;omega
  refine⟨?_,fun aG af=>?_⟩
  ·have l4:=PO ((out,(x.path,())),()) (show out.length<=2097152 by omega)
   have oY:=rI out x.path;simp only[zc,cp hi,cond_true,b6,hx,Option.bind_some,l4,Dz,jP,ia];have grow:((br out 0 (b4 out x.path:Int)).bind fun akh=>(cy 48 ([]:List aA) akh).bind fun akg=>(cy 48 akg ([x]:List aA)).bind fun akf=>(br out (b4 out x.path:Int) (out.length:Int)).bind fun ake=>(cy 48 akf ake).bind fun akd=>
     (some (.inl ((bd,((),((IntKind.i64.wrap ((i:Int)+(1:Int))),()))),(akd,()))):Option (Sum uh.J (ay og))))=some (.inl ((bd,((),(((i+1:Nat):Int),()))),(kc out (b4 out x.path) x,()))):=by
    have hlen:(out.take (b4 out x.path)).length<=out.length:=by rw[List.length_take];omega
    have asJ:(out.drop (b4 out x.path)).length<=out.length:=by rw[List.length_drop];omega
    rw[hO oY,Option.bind_some,dZ (by decide) (by unfold aq;simp only[List.length_nil];omega),Option.bind_some,dZ (by decide) (by unfold aq;simp only[List.length_nil,List.length_cons,List.nil_append];omega),Option.bind_some,gl oY,Option.bind_some,
     dZ (by decide) (by unfold aq;simp only[List.length_append,List.length_nil,List.length_cons,List.nil_append];omega),Option.bind_some,b0 hw]
    rfl
   cases ar:out[b4 out x.path]? with
   |none=>simp only[cond_false,Option.bind_some,Bool.not_false,cond_true,b6,hx];exact grow
   |some q=>
    have hin:=fS (dd ar);simp only;cases hp:(q.path==x.path) with
    |false=>simp only[cond_false,Option.bind_some,Bool.not_false,cond_true,b6,hx];exact grow
    |true=>
     have tf:((x.path==q.path)&&((x.kind==q.kind)&&((x.mode==q.mode)&&(x.text==q.text))))=l8 x q:=rfl;rw[agf];simp only[cond_true,hin,ar,Option.bind_some,b6,hx,tf];cases hk:(q.kind !=1) with
     |true=>rfl
     |false=>
      simp only[cond_false,Option.bind_some,Bool.false_or];cases l8 x q with
      |false=>rfl
      |true=>simp only[Bool.not_true,cond_false,Option.bind_some,b0 hw];rfl
  ·simp only[Option.some.injEq] at af;cases hs:ia out x with
   |none=>rw[hs] at af;cases af
   |some B=>
    rw[hs] at af;cases af;have cl:=xm hs;refine⟨by omega,fun e he=>?_⟩
    rcases Dc hs he with rfl|h
    ·exact hb.2 e (List.mem_of_getElem? hx)
    ·exact dl.2 e h
 ·simp only[zc,dM,cond_false]
noncomputable abbrev amE:bh:=[(159,UV)]
theorem VM:a7 U (bg aj amE):=bf ⟨z159,⟨⟩⟩
abbrev yS:Shape:=⟨[aK 0 .pack,bc 4 3000256,ae 5],[bb 3000256 .entry 4 0],30⟩
abbrev pL:List aO:=[(.ret,⟨[bc 2 3000128,au 3],[bb 3000128 .entry 2 0],30⟩),(.exit 0,⟨[bc 4 3000256],[bb 3000256 .entry 4 0],30⟩)]
noncomputable def zk(y:yS.J):bQ yS pL:=
 bif(decide (y.1.2.2.1<(y.1.1.length:Int))) then
(aU y.1.1 y.1.2.2.1).bind fun a=>
(f159 ((y.2.1,a.bW,()),())).bind fun b=>
 bif(!b.1.2.1) then
 some (.inr (.inl (((),false,()),([]:List aA),())))
else
 some (.inl ((y.1.1,(),(IntKind.i64.wrap (y.1.2.2.1+(1:Int))),()),b.2.1,()))
else
 some (.inr (.inr (((),()),y.2.1,())))
noncomputable def FP:yS.J->Option (ay pL):=bx zk
theorem afH:aW U (an (codeOf Tryz.f109) 1 58) (a_ yS pL FP):=bR VM (by kernel_rfl) ag fun y=>by kernel_rfl
abbrev i109:Shape:=⟨[aK 0 .pack],[],30⟩
abbrev Tw:Shape:=⟨[bc 2 3000128,au 3],[bb 3000128 .entry 2 0],30⟩
noncomputable def f109(a:i109.J):Option Tw.J:=
(FP ((a.1.1,(),(0:Int),()),([]:List aA),())).bind fun b=>
(match b with
|.inl c=>
 some (((),c.1.2.1,()),c.2.1,())
|.inr d=>
 some (((),true,()),d.2.1,()))
noncomputable def Vn:aH:=aP aj Tryz.f109 i109 Tw [] f109
theorem z109:aF U 109 Vn:=aS VM Tryz.func109 (by kernel_rfl) (a' afH ag) (fun y=>by kernel_rfl) fun a=>by kernel_rfl
abbrev i229:Shape:=⟨[aK 0 .entry],[],8⟩
abbrev Hv:Shape:=⟨[bc 2 3000128],[bb 3000128 .entry 2 0],8⟩
noncomputable def f229(a:i229.J):Option Hv.J:=
 pu (t:=.entry) a.1.1 (some (((),()),([]:List aA),())) ((cy 48 ([]:List aA) a.1.1).bind fun b=>
 some (((),()),b,()))
noncomputable def Ul:aH:=aP aj Tryz.f229 i229 Hv [] f229
theorem z229:aF U 229 Ul:=aS g0 Tryz.func229 (by kernel_rfl) ag (fun y=>by kernel_rfl) fun a=>by kernel_rfl
theorem acf(g n c i vb m vc:Nat)(cur vcur:Array Value)(te ve:TypeId)(w:World)(hi:i<n)(hm:0<m)(hroom:n+m<=c)(hc63:c<=9223372036854775807)(hne:vb≠g)
  (hg:w.heap[g]? =some (.cells cur te (0,0))) (hv:w.heap[vb]? =some (.cells vcur ve (0,0))) (hcs:cur.size=c*4) (hvs:m*4<=vcur.size)
  (h1c:∀v∈cur.toList.take (n*4),v.oneCell'=true) (h1v:∀v∈vcur.toList.take (m*4),v.oneCell'=true):
  Calls U 230 #[.slice (some ⟨g,0,none⟩) n c,.int .i64 i,.slice (some ⟨vb,0,none⟩) m vc] w fun e w'=>
   e=.returned (.slice (some ⟨g,0,none⟩) (n+m) c)/\w'=w.drew.setRow g (bF (bF cur.toList ((i+m)*4) ((cur.toList.take (n*4)).drop (i*4))) (i*4) (vcur.toList.take (m*4))).toArray:=by
 have t33:U.underlying 64=some (.slice 178):=by kernel_rfl
 have hsz:(U.info? 178).map (·.size)=some 4:=by kernel_rfl
 have hz1:¬((m:Int)=0):=by omega
 have hz2:¬((i:Int)=(n:Int)):=by omega
 have hov:∀off lb cb,(callFunc 264 #[.slice (some ⟨vb,0,none⟩) m vc,.slice (some ⟨g,off,none⟩) lb cb]).run U w=.ok (.value (.bool false)) w:=fun off lb cb=>by
  rw[run_callFunc_extern Tryz.func264 (by kernel_rfl) (by kernel_rfl) (by kernel_rfl) (e:=Extern.SlicesOverlaps.overlaps #[64,64] #[4]) (by kernel_rfl),
   Lib.run_overlaps_apart w 64 4 178 t33 4 (fun w=>by kernel_rfl) ⟨vb,0,none⟩ ⟨g,off,none⟩ m vc lb cb hne ve te vcur.size cur.size (by simp[World.shape?,hv]) (by simp[World.shape?,hg]) (by omega) (by simp[World.frozen?,hv]) (by simp[World.frozen?,hv])]
  rfl
 have hdl:((cur.toList.take (n*4)).drop (i*4)).length=(n-i)*4:=by simp only[List.length_drop,List.length_take,Array.length_toList,hcs];rw[Nat.min_eq_left (by omega),Nat.sub_mul]
 have hcl:∀j v,(cur.toList.take (n*4))[j]? =some v->w.cell? ⟨g,j,none⟩=some v:=fun j v h=>by
  rw[List.getElem?_take] at h;split at h
  ·simpa[World.cell?,hg] using h
  ·cases h
 have hcv:∀j v,(vcur.toList.take (m*4))[j]? =some v->w.cell? ⟨vb,j,none⟩=some v:=fun j v h=>by
  rw[List.getElem?_take] at h;split at h
  ·simpa[World.cell?,hv] using h
  ·cases h
 have hcp1:∀ty dc sc,(Builtin.copy_ #[64,64] ty #[.slice (some ⟨g,(i+m)*4,none⟩) (n+m-(i+m)) dc,.slice (some ⟨g,i*4,none⟩) (n+m-i) sc]).run U w.drew=
   .ok (goInt (Nat.min (n+m-i) (n+m-(i+m)))) (w.drew.setRow g (bF cur.toList ((i+m)*4) ((cur.toList.take (n*4)).drop (i*4))).toArray):=fun ty dc sc=>
  w9 w.drew _ _ ty 178 4 g ((i+m)*4) (n+m-(i+m)) dc ⟨g,i*4,none⟩ (n+m-i) sc cur te _ t33 hsz hg (by rw[hdl];simp only[Nat.min_def];split<;>omega)
   (fun j v hj=>by rw[Addr.add_lit];exact hcl (i*4+j) v (by rwa[List.getElem?_drop] at hj)) (by rw[hdl,hcs];omega) (fun v hv=>h1c v (List.mem_of_mem_drop hv))
 obtain⟨cur1,hcur1⟩:∃cur1,cur1=(bF cur.toList ((i+m)*4) ((cur.toList.take (n*4)).drop (i*4))).toArray:=⟨_,rfl⟩;rw[<-hcur1] at hcp1;have hc1s:cur1.size=c*4:=by rw[hcur1];simp only[bF,List.size_toArray,List.length_append,List.length_drop,List.length_take,Array.length_toList,hcs];omega
 have hcp2:∀(W:World),W.heap=(w.drew.setRow g cur1).heap->∀ty dc,(Builtin.copy_ #[64,64] ty #[.slice (some ⟨g,i*4,none⟩) (n+m-i) dc,.slice (some ⟨vb,0,none⟩) m vc]).run U W=
   .ok (goInt (Nat.min m (n+m-i))) (W.setRow g (bF cur1.toList (i*4) (vcur.toList.take (m*4))).toArray):=fun W hW ty dc=>
  w9 W _ _ ty 178 4 g (i*4) (n+m-i) dc ⟨vb,0,none⟩ m vc cur1 te _ t33 hsz (by rw[hW];exact setRow_heap w.drew g cur cur1 te (0,0) hg)
   (by simp only[List.length_take,Array.length_toList,Nat.min_def];split<;>split<;>omega)
   (fun j v hj=>by
    have:=hcv j v hj;rw[Addr.add_lit,Nat.zero_add];unfold World.cell? at this ⊢;rw[hW,show(w.drew.setRow g cur1).heap[vb]? =w.heap[vb]? from setRow_other w.drew g vb cur1 hne];exact this) (by simp only[List.length_take,Array.length_toList];omega) h1v
 have hE:w.drew.setRow g (bF (bF cur.toList ((i+m)*4) ((cur.toList.take (n*4)).drop (i*4))) (i*4) (vcur.toList.take (m*4))).toArray=(w.drew.setRow g cur1).setRow g (bF cur1.toList (i*4) (vcur.toList.take (m*4))).toArray:=by
  rw[setRow_setRow,hcur1]
 rw[hE];clear hE hcur1;have hw1:IntKind.i64.wrap ((i:Int)+(m:Int))=(i:Int)+(m:Int):=by rw[IntKind.wrap_i64];omega
 have hb1:(0:Int)<=(i:Int)+(m:Int):=by omega
 have hin:i<=n:=by omega
 have htn:((i:Int)+(m:Int)).toNat=i+m:=by omega
 have hb2:¬(c=i+m):=by omega
 have hb3:(i:Int)<=(n:Int)+(m:Int):=by omega
 have hb4:¬(c=i):=by omega
 go_enter Tryz.func230,Tryz.ntmps230
 go_wp2_with (simp only[hov])
 go_region_law (refine Lp rfl _ _ 64 64 rfl (.slice (some ⟨g,(i+m)*4,none⟩) (n+m-(i+m)) (c-(i+m))) (.slice (some ⟨g,i*4,none⟩) (n+m-i) (c-i)) (by simp[Act.eval,Act.put]) (by simp[Act.eval,Act.put]) (hcp1 _ _ _) ?_)
 go_wp2_with (at_builtin;refine K1 _ rfl _ _ 64 64 rfl _ _ rfl rfl (hcp2 _ rfl _ _) ?_)
 go_ret
 exact⟨rfl,rfl⟩
theorem ach(xa:Option Addr)(vc:Nat)(w:World):
  Calls U 230 #[.slice none 0 0,.int .i64 0,.slice xa 0 vc] w fun e w'=>e=.returned (.slice none 0 0)/\w'=w:=by
 go_enter Tryz.func230,Tryz.ntmps230
 go_wp2
 go_ret
 exact⟨rfl,rfl⟩
theorem acg(g n c i:Nat)(xa:Option Addr)(vc:Nat)(w:World)(hi:i<=n)(hnc:n<=c)(hc63:c<=9223372036854775807):
  Calls U 230 #[.slice (some ⟨g,0,none⟩) n c,.int .i64 i,.slice xa 0 vc] w fun e w'=>e=.returned (.slice (some ⟨g,0,none⟩) n c)/\w'=w:=by
 go_enter Tryz.func230,Tryz.ntmps230
 go_wp2
 all_goals(go_ret;exact⟨rfl,rfl⟩)
theorem ad1(xa:Option Addr)(m vc:Nat)(w:World)(hm:0<m)(v':Value)(W:World)(hr:∀ty,(Builtin.append_ #[64,64] ty #[.slice none 0 0,.slice xa m vc]).run U w=.ok v' W):
  Calls U 230 #[.slice none 0 0,.int .i64 0,.slice xa m vc] w fun e w'=>e=.returned v'/\w'=W:=by
 have hz1:¬((m:Int)=0):=by omega
 go_enter Tryz.func230,Tryz.ntmps230
 go_wp2_with (at_builtin;refine Cr _ rfl _ _ 64 64 rfl _ _ rfl rfl (hr _) ?_)
 go_ret
 exact⟨rfl,rfl⟩
theorem ad0(g n c:Nat)(xa:Option Addr)(m vc:Nat)(w:World)(hnc:n<=c)(hc63:c<=9223372036854775807)(hm:0<m)(v':Value)(W:World)(hr:∀ty,(Builtin.append_ #[64,64] ty #[.slice (some ⟨g,0,none⟩) n c,.slice xa m vc]).run U w=.ok v' W):
  Calls U 230 #[.slice (some ⟨g,0,none⟩) n c,.int .i64 n,.slice xa m vc] w fun e w'=>e=.returned v'/\w'=W:=by
 have hz1:¬((m:Int)=0):=by omega
 go_enter Tryz.func230,Tryz.ntmps230
 go_wp2_with (at_builtin;refine Cr _ rfl _ _ 64 64 rfl _ _ rfl rfl (hr _) ?_)
 all_goals(go_ret;exact⟨rfl,rfl⟩)
theorem adZ(g n c i vb m vc:Nat)(cur vcur:Array Value)(te ve:TypeId)(w:World)(hi:i<n)(hm:0<m)(hnc:n<=c)(hroom:c<n+m)(hc63:c<=9223372036854775807)(hbig:(n+m)*48<=140737488355328)
  (hg:w.heap[g]? =some (.cells cur te (0,0))) (hv:w.heap[vb]? =some (.cells vcur ve (0,0))) (hcs:cur.size=c*4) (hvs:m*4<=vcur.size)
  (h1c:∀v∈cur.toList.take (n*4),v.oneCell'=true) (h1v:∀v∈vcur.toList.take (m*4),v.oneCell'=true):
  ∃G ROW,∃W:World,G<=maxLen/\n+m<=G/\ROW.size=G*4/\ROW.toList.take (i*4)=cur.toList.take (i*4)/\W.os=w.os/\W.tape=w.tape/\W.output=w.output/\W.heap=w.heap.push (.cells ROW 178 (0,0))/\
  Calls U 230 #[.slice (some ⟨g,0,none⟩) n c,.int .i64 i,.slice (some ⟨vb,0,none⟩) m vc] w fun e w'=>
   e=.returned (.slice (some ⟨w.heap.size,0,none⟩) (n+m) G)/\w'.os=w.os/\w'.tape=w.tape/\w'.output=w.output/\
    w'.heap=(W.setRow w.heap.size (bF (bF ROW.toList (i*4) (vcur.toList.take (m*4))) ((i+m)*4) ((cur.toList.take (n*4)).drop (i*4))).toArray).heap:=by
 have t33:U.underlying 64=some (.slice 178):=by kernel_rfl
 have t3:U.underlying 3=some (.int .i64):=by kernel_rfl
 have hsz:(U.info? 178).map (·.size)=some 4:=by kernel_rfl
 have hinfo:(U.info? 178).map (fun i=>(i.zero.map (·.cells.size),i.size,i.bytes))=some (some 4,4,48):=by kernel_rfl
 obtain⟨i0,hi0,hzz⟩:=Option.map_eq_some_iff.1 hinfo;simp only[Prod.mk.injEq] at hzz;obtain⟨hz0,hzs,hzb⟩:=hzz;obtain⟨z,hz,hzc⟩:=Option.map_eq_some_iff.1 hz0;have hz1:¬((m:Int)=0):=by omega
 have hz2:¬((i:Int)=(n:Int)):=by omega
 have hz3:(c:Int)<(n:Int)+(m:Int):=by omega
 have hgw:g<w.heap.size:=(Array.getElem?_eq_some_iff.1 hg).1;have hvw:vb<w.heap.size:=(Array.getElem?_eq_some_iff.1 hv).1;have hkk:(n:Int)+(m:Int)-(i:Int)=((n+m-i:Nat):Int):=by omega
 have hik:i+(n+m-i)=n+m:=by omega
 have hdl:((cur.toList.take (n*4)).drop (i*4)).length=(n-i)*4:=by simp only[List.length_drop,List.length_take,Array.length_toList,hcs];rw[Nat.min_eq_left (by omega),Nat.sub_mul]
 have hcl:∀j v,(cur.toList.take (n*4))[j]? =some v->w.cell? ⟨g,j,none⟩=some v:=fun j v h=>by
  rw[List.getElem?_take] at h;split at h
  ·simpa[World.cell?,hg] using h
  ·cases h
 have hcv:∀j v,(vcur.toList.take (m*4))[j]? =some v->w.cell? ⟨vb,j,none⟩=some v:=fun j v h=>by
  rw[List.getElem?_take] at h;split at h
  ·simpa[World.cell?,hv] using h
  ·cases h
 have hold:(Builtin.firstCells i0.size i (.slice (some ⟨g,0,none⟩) i c)).run U w.drew=.ok (cur.toList.take (i*4)).toArray w.drew:=by
  rw[hzs];exact run_firstCells_some w.drew 4 i ⟨g,0,none⟩ i c (cur.toList.take (i*4)) (by simp only[List.length_take,Array.length_toList,hcs];omega) (fun j v hj=>by
   rw[Addr.add_lit,Nat.zero_add];refine hcl j v ?_
   rw[List.getElem?_take] at hj ⊢;split at hj
   ·rw[if_pos (by omega)];exact hj
   ·cases hj)
 have hrz:∀ty,(Builtin.append_ #[64,3] ty #[.slice (some ⟨g,0,none⟩) i c,.int .i64 ((n:Int)+(m:Int)-(i:Int))]).run U w=
   .ok (.slice (some ⟨w.heap.size,0,none⟩) (n+m) (grownCap w (n+m) c 178)) (w.drew.alloc (.cells ((cur.toList.take (i*4)).toArray++Builtin.zeroCells z.cells (n+m-i)++Builtin.zeroCells z.cells (grownCap w (n+m) c 178-(n+m))) 178)):=fun ty=>by
  have h:=Lib.run_append_grow_zeros w 64 3 ty 178 i0 z .i64 .i64 t33 t3 hi0 hz (some ⟨g,0,none⟩) i c (cur.toList.take (i*4)) hold (n+m-i) (by omega) (by omega) (by omega) (by omega) (by rw[hzb];omega) (by rw[hzb,hik];exact growslice_fits hroom hbig)
  rw[hik] at h;rw[hkk];exact h
 obtain⟨G,hG⟩:∃G,G=grownCap w (n+m) c 178:=⟨_,rfl⟩;obtain⟨ROW,hROW⟩:∃ROW:Array Value,ROW=(cur.toList.take (i*4)).toArray++Builtin.zeroCells z.cells (n+m-i)++Builtin.zeroCells z.cells (G-(n+m)):=⟨_,rfl⟩;rw[<-hG] at hrz;rw[<-hROW] at hrz;have hGn:n+m<=G:=by rw[hG];exact grownCap_ge w _ _ _
 have hGm:G<=maxLen:=by rw[hG];exact grownCap_le_maxLen w (n+m) c 178 (by unfold maxLen;omega)
 have hG63:G<=9223372036854775807:=by unfold maxLen at hGm;omega
 have hRl:ROW.size=G*4:=by
  rw[hROW];simp only[Array.size_append,List.size_toArray,size_zeroCells,hzc,List.length_take,Array.length_toList,hcs];omega
 have hRt:ROW.toList.take (i*4)=cur.toList.take (i*4):=by
  rw[hROW];simp only[Array.toList_append,List.append_assoc];have:i*4=(cur.toList.take (i*4)).length:=by simp only[List.length_take,Array.length_toList,hcs];omega
  exact List.take_left' this.symm
 refine⟨G,ROW,w.drew.alloc (.cells ROW 178),hGm,hGn,hRl,hRt,rfl,rfl,rfl,rfl,?_⟩;obtain⟨W1,hW1⟩:∃W1,W1=w.drew.alloc (.cells ROW 178):=⟨_,rfl⟩;rw[<-hW1] at hrz ⊢;have hNew:W1.heap[w.heap.size]? =some (.cells ROW 178 (0,0)):=by rw[hW1];exact heap_alloc_new w.drew _
 have hOld:∀b,b<w.heap.size->W1.heap[b]? =w.heap[b]? :=fun b hb=>by rw[hW1];exact RowKit.Below.heap_alloc w.drew _ b hb
 have hos:W1.os=w.os/\W1.tape=w.tape/\W1.output=w.output:=by rw[hW1];exact⟨rfl,rfl,rfl⟩
 have hgN:g≠w.heap.size:=by omega
 have hvN:vb≠w.heap.size:=by omega
 have hcpA:∀(W:World),W.heap=W1.heap->∀ty dc,(Builtin.copy_ #[64,64] ty #[.slice (some ⟨w.heap.size,i*4,none⟩) (n+m-i) dc,.slice (some ⟨vb,0,none⟩) m vc]).run U W=
   .ok (goInt (Nat.min m (n+m-i))) (W.setRow w.heap.size (bF ROW.toList (i*4) (vcur.toList.take (m*4))).toArray):=fun W hW ty dc=>
  w9 W _ _ ty 178 4 w.heap.size (i*4) (n+m-i) dc ⟨vb,0,none⟩ m vc ROW 178 _ t33 hsz (by rw[hW];exact hNew)
   (by simp only[List.length_take,Array.length_toList,Nat.min_def];split<;>split<;>omega)
   (fun j v hj=>by
    have:=hcv j v hj;rw[Addr.add_lit,Nat.zero_add];unfold World.cell? at this ⊢;rw[hW,show W1.heap[vb]? =w.heap[vb]? from hOld vb hvw];exact this) (by simp only[List.length_take,Array.length_toList];omega) h1v
 obtain⟨R2,hR2⟩:∃R2,R2=(bF ROW.toList (i*4) (vcur.toList.take (m*4))).toArray:=⟨_,rfl⟩;have hE:W1.setRow w.heap.size (bF (bF ROW.toList (i*4) (vcur.toList.take (m*4))) ((i+m)*4) ((cur.toList.take (n*4)).drop (i*4))).toArray=
   (W1.setRow w.heap.size R2).setRow w.heap.size (bF R2.toList ((i+m)*4) ((cur.toList.take (n*4)).drop (i*4))).toArray:=by rw[setRow_setRow,hR2]
 rw[hE];have hR2s:R2.size=G*4:=by rw[hR2];simp only[bF,List.size_toArray,List.length_append,List.length_drop,List.length_take,Array.length_toList,hRl];omega
 rw[<-hR2] at hcpA;clear hE hR2;have hcpB:∀(W:World),W.heap=(W1.setRow w.heap.size R2).heap->∀ty dc sc,(Builtin.copy_ #[64,64] ty #[.slice (some ⟨w.heap.size,(i+m)*4,none⟩) (n+m-(i+m)) dc,.slice (some ⟨g,i*4,none⟩) (n-i) sc]).run U W=
   .ok (goInt (Nat.min (n-i) (n+m-(i+m)))) (W.setRow w.heap.size (bF R2.toList ((i+m)*4) ((cur.toList.take (n*4)).drop (i*4))).toArray):=fun W hW ty dc sc=>
  w9 W _ _ ty 178 4 w.heap.size ((i+m)*4) (n+m-(i+m)) dc ⟨g,i*4,none⟩ (n-i) sc R2 178 _ t33 hsz (by rw[hW];exact setRow_heap W1 w.heap.size ROW R2 178 (0,0) hNew)
   (by rw[hdl];simp only[Nat.min_def];split<;>omega)
   (fun j v hj=>by
    have:=hcl (i*4+j) v (by rwa[List.getElem?_drop] at hj)
    rw[Addr.add_lit];unfold World.cell? at this ⊢;rw[hW,show(W1.setRow w.heap.size R2).heap[g]? =w.heap[g]? from(setRow_other W1 w.heap.size g R2 hgN).trans (hOld g hgw)];exact this) (by rw[hdl,hR2s];omega) (fun v hv=>h1c v (List.mem_of_mem_drop hv))
 have hGi:¬(G=i):=by omega
 have hGim:¬(G=i+m):=by omega
 have hci:¬(c=i):=by omega
 have hw1:IntKind.i64.wrap ((i:Int)+(m:Int))=(i:Int)+(m:Int):=by rw[IntKind.wrap_i64];omega
 have hb1:(0:Int)<=(i:Int)+(m:Int):=by omega
 have hin:i<=n:=by omega
 have htn:((i:Int)+(m:Int)).toNat=i+m:=by omega
 have hb3:(i:Int)<=(n:Int):=by omega
 clear hkk hik hold hROW hG hRl hW1;go_enter Tryz.func230,Tryz.ntmps230
 go_wp2_with (first
  |(at_builtin;refine Cr _ rfl _ _ 64 3 rfl _ _ rfl rfl (hrz _) ?_)
  |(at_builtin;refine K1 _ rfl _ _ 64 64 rfl _ _ rfl rfl (hcpA _ rfl _ _) ?_))
 go_region_law (refine Lp rfl _ _ 64 64 rfl (.slice (some ⟨w.heap.size,(i+m)*4,none⟩) (n+m-(i+m)) (G-(i+m))) (.slice (some ⟨g,i*4,none⟩) (n-i) (c-i)) (by simp[Act.eval,Act.put]) (by simp[Act.eval,Act.put]) (hcpB (W1.setRow w.heap.size R2).drew rfl 3 (G-(i+m)) (c-i)) ?_)
 go_wp2
 go_ret
 exact⟨rfl,hos.1,hos.2.1,hos.2.2,rfl⟩
noncomputable def RD:aH:=FS .entry 48
theorem aic:aF U 230 RD:=ace (t:=.entry) (bt:=48) rfl (by decide) (T:=64) (e:=178) ⟨ach,acg,ad1,ad0,acf,adZ⟩ (fun vs w=>enters_of Tryz.func230 (by kernel_rfl) rfl _ _) (by kernel_rfl) (by kernel_rfl)
noncomputable abbrev alW:bh:=[(105,vw),(201,Ie),(229,Ul),(230,RD)]
theorem Bh:a7 U (bg aj alW):=bf ⟨z105,z201,z229,aic,⟨⟩⟩
abbrev OY:Shape:=⟨[aK 0 .entry,aK 1 .entry],[],59⟩
abbrev OF:List aO:=[(.norm,⟨[aK 0 .entry,aK 1 .entry,au 18],[],59⟩)]
noncomputable def F4(y:OY.J):Option (ay OF):=
(f105 ((y.1.1,()),())).bind fun a=>
 bif(!(!a.1.1)) then
(f105 ((y.1.2.1,()),())).bind fun b=>
 some ((y.1.1,y.1.2.1,(!b.1.1),()),())
else
 some ((y.1.1,y.1.2.1,true,()),())
theorem aff:aW U (an (codeOf Tryz.f185) 1 12) (a_ OY OF F4):=cS Bh (by kernel_rfl) ag fun y=>by kernel_rfl
abbrev Lr:Shape:=⟨[bc 6 3000384,aM 8 8 0,ae 9,aK 21 .entry,ae 22,ae 23],[bb 3000384 .entry 6 0,aL 8 [ai,bo,bo,ai]],59⟩
abbrev Ll:List aO:=[(.norm,⟨[bc 6 3000384,aK 21 .entry,ae 22,ae 23,au 42,aM 43 8 1,ae 44,au 45,au 46,au 53],[bb 3000384 .entry 6 0,aL 8 [ai,bo,bo,ai]],59⟩)]
noncomputable def CK(y:Lr.J):Option (ay Ll):=
 bif(y.2.2.1.2.1 !=(1:Int)) then
 some (((),y.1.2.2.2.1,y.1.2.2.2.2.1,y.1.2.2.2.2.2.1,true,(),y.2.2.1.2.1,(y.2.2.1.2.1 !=(1:Int)),true,true,()),y.2.1,(y.2.2.1.1,y.2.2.1.2.1,y.2.2.1.2.2.1,y.2.2.1.2.2.2.1,()),())
else
(a6 y.2.1.length y.1.2.2.1).bind fun a=>
(y.2.1[a]?).bind fun b=>
 some (((),y.1.2.2.2.1,y.1.2.2.2.2.1,y.1.2.2.2.2.2.1,(!((b.path==y.2.2.1.1)&&((b.kind==y.2.2.1.2.1)&&((b.mode==y.2.2.1.2.2.1)&&(b.text==y.2.2.1.2.2.2.1))))),(),y.2.2.1.2.1,(y.2.2.1.2.1 !=(1:Int)),false,(!((b.path==y.2.2.1.1)&&((b.kind==y.2.2.1.2.1)&&((b.mode==y.2.2.1.2.2.1)&&(b.text==y.2.2.1.2.2.2.1))))),()),y.2.1,(y.2.2.1.1,y.2.2.1.2.1,y.2.2.1.2.2.1,y.2.2.1.2.2.2.1,()),())
theorem _k:aW U (an (c8 (an (codeOf Tryz.f185) 1 122)) 244 250678) (a_ Lr Ll CK):=cS Bh (by kernel_rfl) ag fun y=>by kernel_rfl
abbrev xX:Shape:=⟨[bc 6 3000384,aK 21 .entry,ae 22,ae 23],[bb 3000384 .entry 6 0],59⟩
abbrev pv:List aO:=[(.ret,⟨[bc 4 3000256,au 5],[bb 3000256 .entry 4 0],59⟩),(.exit 0,⟨[bc 6 3000384],[bb 3000384 .entry 6 0],59⟩)]
noncomputable def yd(y:xX.J):bQ xX pv:=
 bif(decide (y.1.2.2.2.1<y.1.2.2.1)) then
(aU y.1.2.1 y.1.2.2.2.1).bind fun a=>
(f201 ((y.2.1,a.path,()),())).bind fun b=>
 bif(!b.1.2.1) then
(sJ 48 y.2.1 b.1.1 ([a]:List aA)).bind fun c=>
 some (.inl (((),y.1.2.1,y.1.2.2.1,(IntKind.i64.wrap (y.1.2.2.2.1+(1:Int))),()),c,()))
else
(CK (((),(),b.1.1,y.1.2.1,y.1.2.2.1,y.1.2.2.2.1,()),y.2.1,(a.path,a.kind,a.mode,a.text,()),())).bind fun d=>
 bif d.1.2.2.2.2.1 then
 some (.inr (.inl (((),false,()),([]:List aA),())))
else
 some (.inl (((),d.1.2.1,d.1.2.2.1,(IntKind.i64.wrap (d.1.2.2.2.1+(1:Int))),()),d.2.1,()))
else
 some (.inr (.inr (((),()),y.2.1,())))
noncomputable def Ej:xX.J->Option (ay pv):=bx yd
theorem adw:aW U (an (codeOf Tryz.f185) 1 122) (a_ xX pv Ej):=bR Bh (by kernel_rfl) (a' _k ag) fun y=>by kernel_rfl
abbrev i185:Shape:=⟨[aK 0 .entry,aK 1 .entry],[],59⟩
abbrev SN:Shape:=⟨[bc 4 3000256,au 5],[bb 3000256 .entry 4 0],59⟩
noncomputable def f185(a:i185.J):Option SN.J:=
(F4 ((a.1.1,a.1.2.1,()),())).bind fun b=>
 bif b.1.2.2.1 then
 some (((),false,()),([]:List aA),())
else
(f229 ((b.1.1,()),())).bind fun c=>
(Ej (((),b.1.2.1,(b.1.2.1.length:Int),(0:Int),()),c.2.1,())).bind fun d=>
(match d with
|.inl e=>
 some (((),e.1.2.1,()),e.2.1,())
|.inr f=>
(f105 ((f.2.1,()),())).bind fun g=>
 bif(!g.1.1) then
 some (((),false,()),([]:List aA),())
else
 some (((),true,()),f.2.1,()))
noncomputable def UI:aH:=aP aj Tryz.f185 i185 SN [] f185
theorem ajN:aF U 185 UI:=aS Bh Tryz.func185 (by kernel_rfl) (a' aff (a' adw ag)) (fun y=>by kernel_rfl) fun a=>by kernel_rfl
noncomputable abbrev amr:bh:=[(185,UI)]
theorem VJ:a7 U (bg aj amr):=bf ⟨ajN,⟨⟩⟩
abbrev yL:Shape:=⟨[bc 4 3000256,aK 9 .pack,ae 10,ae 11],[bb 3000256 .entry 4 0],27⟩
abbrev pK:List aO:=[(.ret,⟨[bc 2 3000128,au 3],[bb 3000128 .entry 2 0],27⟩),(.exit 0,⟨[bc 4 3000256],[bb 3000256 .entry 4 0],27⟩)]
noncomputable def zg(y:yL.J):bQ yL pK:=
 bif(decide (y.1.2.2.2.1<y.1.2.2.1)) then
(aU y.1.2.1 y.1.2.2.2.1).bind fun a=>
(f185 ((y.2.1,a.bW,()),())).bind fun b=>
 bif(!b.1.2.1) then
 some (.inr (.inl (((),false,()),([]:List aA),())))
else
 some (.inl (((),y.1.2.1,y.1.2.2.1,(IntKind.i64.wrap (y.1.2.2.2.1+(1:Int))),()),b.2.1,()))
else
 some (.inr (.inr (((),()),y.2.1,())))
noncomputable def FL:yL.J->Option (ay pK):=bx zg
theorem afz:aW U (an (codeOf Tryz.f133) 1 58) (a_ yL pK FL):=bR VJ (by kernel_rfl) ag fun y=>by kernel_rfl
abbrev i133:Shape:=⟨[aK 0 .pack],[],27⟩
abbrev Tj:Shape:=⟨[bc 2 3000128,au 3],[bb 3000128 .entry 2 0],27⟩
noncomputable def f133(a:i133.J):Option Tj.J:=
(FL (((),a.1.1,(a.1.1.length:Int),(0:Int),()),([]:List aA),())).bind fun b=>
(match b with
|.inl c=>
 some (((),c.1.2.1,()),c.2.1,())
|.inr d=>
 some (((),true,()),d.2.1,()))
noncomputable def Vc:aH:=aP aj Tryz.f133 i133 Tj [] f133
theorem aj5:aF U 133 Vc:=aS VJ Tryz.func133 (by kernel_rfl) (a' afz ag) (fun y=>by kernel_rfl) fun a=>by kernel_rfl
theorem Dv:∀(r:List aA) (out B:List aA),(∀e,e∈r->li e)->(∀e,e∈out->li e)->ho out r=some B->B.length<=out.length+r.length/\∀e,e∈B->li e:=by
 intro r;induction r with
 |nil=>intro out B _ h2 h;cases h;exact⟨Nat.le_refl _,h2⟩
 |cons e r ih=>
  intro out B h1 h2 h;rw[xc] at h;obtain⟨o1,h3,ax⟩:=Option.bind_eq_some_iff.1 h;have bk:=ih o1 B (fun x hx=>h1 x (List.mem_cons_of_mem _ hx)) (fun x hx=>by
   rcases Dc h3 hx with rfl|h
   ·exact h1 x List.mem_cons_self
   ·exact h2 x h) ax
  have cl:=xm h3;exact⟨by simp only[List.length_cons];omega,bk.2⟩
theorem _3{t:List aA}(h:dI t=true):gd t:=by
 unfold dI at h;simp only[Bool.and_eq_true] at h;exact QR h.1.1
theorem jj{t:List aA}(h:dI t=true):t.length<=16:=by
 unfold dI at h;simp only[Bool.and_eq_true,decide_eq_true_eq] at h;exact h.2
theorem acV(a)(hs:cZ a.1.1.length):f229 a=some (((),()),(a.1.1,())):=by
 obtain⟨⟨xs,u⟩,cn⟩:=a;have hs:xs.length<=2097152:=hs;have h2:(cy 48 ([]:List aA) xs).bind (fun x=>some (((),()),(x,())))=(some (((),()),(xs,())):Option Hv.J):=by
  rw[dZ (by decide) (by unfold aq;simp only[List.length_nil];omega)];rfl
 simp only[f229];rw[h2];unfold pu;split
 ·rfl
 ·rename_i h;exact absurd (fun he:xs=[]=>by subst he;rfl) h
theorem _Z(a)(ha:ij a.1.1)(hb:ij a.1.2.1)(h1:dI a.1.1=true)(h2:dI a.1.2.1=true):f185 a=
  some (match ho a.1.1 a.1.2.1 with|some out=>(bif dI out then(((),(true,())),(out,())) else(((),(false,())),(([]:List aA),())))|none=>(((),(false,())),(([]:List aA),()))):=by
 obtain⟨⟨xs,bd,u⟩,cn⟩:=a;have h1:dI xs=true:=h1;have h2:dI bd=true:=h2;have asY:=jj h1;have asX:=jj h2;have e1:=pm ((xs,()),()) ha;have e2:=pm ((bd,()),()) hb;have bz:=acV ((xs,()),()) (show xs.length<=2097152 by omega)
 have key:Ej (((),(bd,((bd.length:Int),((0:Int),())))),(xs,()))=_:=ly yd bd (fun i (out:List aA)=>(((),(bd,((bd.length:Int),((i:Int),())))),(out,())))
  (fun i e out=>some (match ia out e with|some B=>.inl B|none=>.inr ((.inl (((),(false,())),(([]:List aA),()))):ay pv))) (fun out=>((.inr (((),()),(out,()))):ay pv))
  (fun i out=>out.length<=xs.length+i/\gd out) xs ⟨Nat.le_refl _,_3 h1⟩ (fun i x out hx dl=>?_) (fun out _=>?_)
 ·have fold:∀(r:List aA) (k:Nat) (out:List aA),eI (fun i e out=>some (match ia out e with|some B=>.inl B|none=>.inr ((.inl (((),(false,())),(([]:List aA),()))):ay pv))) (fun out=>((.inr (((),()),(out,()))):ay pv)) k r out=
    some (match ho out r with|some B=>.inr (((),()),(B,()))|none=>.inl (((),(false,())),(([]:List aA),()))):=by
   intro r;induction r with
   |nil=>intro k out;rfl
   |cons e r ih=>
    intro k out;rw[xc];simp only[eI];cases ia out e with
    |none=>rfl
    |some B=>simp only[Option.bind_some];exact ih _ _
  rw[fold] at key;simp only[f185,F4,e1,e2,h1,h2,bz,Bool.not_true,Bool.not_false,cond_true,cond_false,Option.bind_some,key];cases hj:ho xs bd with
  |none=>rfl
  |some B=>
   have hm:=Dv bd xs B hb.2 ha.2 hj;simp only[Option.bind_some];rw[pm _ ⟨show B.length<=2097152 by omega,hm.2⟩]
   simp only[Option.bind_some];cases dI B<;>rfl
 ·have hi:=dd hx;have hw:aq i:=by unfold aq;omega
  refine⟨?_,fun aG af=>?_⟩
  ·have l4:=Lg ((out,(x.path,())),()) (show out.length<=2097152 by omega) dl.2
   have oY:=rI out x.path;simp only[yd,cp hi,cond_true,b6,hx,Option.bind_some,l4,jP,ia];have grow:sJ 48 out (b4 out x.path:Int) [x]=some (kc out (b4 out x.path) x):=by
    unfold sJ;rw[if_pos ⟨by omega,by omega,by unfold room;simp only[List.length_cons,List.length_nil];omega,by unfold maxLen;simp only[List.length_cons,List.length_nil];omega⟩,Int.toNat_natCast]
    rfl
   cases ar:out[b4 out x.path]? with
   |none=>simp only[Bool.not_false,cond_true,grow,Option.bind_some,b0 hw];rfl
   |some q=>
    have hin:=fS (dd ar);simp only;cases hp:(q.path==x.path) with
    |false=>simp only[Bool.not_false,cond_true,grow,Option.bind_some,b0 hw,cond_false];rfl
    |true=>
     have tf:((q.path==x.path)&&((q.kind==x.kind)&&((q.mode==x.mode)&&(q.text==x.text))))=l8 q x:=rfl;simp only[Bool.not_true,cond_false,cond_true,CK,hin,ar,Option.bind_some,nG,aee x q];cases hk:(x.kind !=1) with
     |true=>rfl
     |false=>
      have alb:(l8 q x)=((q.path==x.path)&&((q.kind==x.kind)&&((q.mode==x.mode)&&(q.text==x.text)))):=rfl;rw[alb];cases ((q.path==x.path)&&((q.kind==x.kind)&&((q.mode==x.mode)&&(q.text==x.text)))) with
      |false=>rfl
      |true=>simp only[Bool.not_true,Bool.false_or,cond_false,Option.bind_some,b0 hw];rfl
  ·simp only[Option.some.injEq] at af;cases hs:ia out x with
   |none=>rw[hs] at af;cases af
   |some B=>
    rw[hs] at af;cases af;have cl:=xm hs;exact⟨by omega,abf dl.2 hs⟩
 ·simp only[yd,dM,cond_false]
def gF(out:List aA):List ba->Option (List aA)
 |[]=>some out
 |p::r=>match ho out p.bW with
  |some B=>bif dI B then gF B r else none
  |none=>none
def stepT(out:List aA)(p:ba):Option (List aA):=match ho out p.bW with
 |some B=>bif dI B then some B else none
 |none=>none
theorem Lk(out:List aA)(p:ba)(r:List ba):gF out (p::r)=(stepT out p).bind fun B=>gF B r:=by
 unfold stepT;rw[gF];cases ho out p.bW with
 |none=>rfl
 |some B=>simp only;cases dI B<;>rfl
theorem NH{out B:List aA}{p:ba}(h:stepT out p=some B):dI B=true/\ho out p.bW=some B:=by
 unfold stepT at h;split at h
 ·rename_i cU aC;cases ap:dI cU with
  |true=>rw[ap] at h;cases h;exact⟨ap,aC⟩
  |false=>rw[ap] at h;cases h
 ·cases h
theorem aaT(a)(hb:kk a.1.1)(hk:a.1.1.all cH=true):f109 a=some (((),((gF [] a.1.1).isSome,())),((gF [] a.1.1).getD [],())):=by
 obtain⟨⟨ps,u⟩,cn⟩:=a;have hl:ps.length<=2097152:=hb.1;have I7:∀p,p∈ps->dI p.bW=true/\ij p.bW:=by
  intro p hp;have:=List.all_eq_true.1 hk p hp;unfold cH at this;simp only[Bool.and_eq_true] at this;exact⟨this.2,(hb.2 p hp).2.2.2⟩
 have key:FP ((ps,((),((0:Int),()))),(([]:List aA),()))=_:=ly zk ps (fun i (out:List aA)=>((ps,((),((i:Int),()))),(out,())))
  (fun i p out=>some (match stepT out p with|some B=>.inl B|none=>.inr ((.inl (((),(false,())),(([]:List aA),()))):ay pL))) (fun out=>((.inr (((),()),(out,()))):ay pL))
  (fun i out=>out.length<=16/\∀e,e∈out->li e) [] ⟨Nat.zero_le _,fun e h=>by cases h⟩ (fun i x out hx dl=>?_) (fun out _=>?_)
 ·have fold:∀(r:List ba) (k:Nat) (out:List aA),eI (fun i p out=>some (match stepT out p with|some B=>.inl B|none=>.inr ((.inl (((),(false,())),(([]:List aA),()))):ay pL))) (fun out=>((.inr (((),()),(out,()))):ay pL)) k r out=
    some (match gF out r with|some B=>.inr (((),()),(B,()))|none=>.inl (((),(false,())),(([]:List aA),()))):=by
   intro r;induction r with
   |nil=>intro k out;rfl
   |cons p r ih=>
    intro k out;rw[Lk];simp only[eI];cases stepT out p with
    |none=>rfl
    |some B=>simp only[Option.bind_some];exact ih _ _
  rw[fold] at key;simp only[f109,key,Option.bind_some];cases gF [] ps with
  |none=>rfl
  |some B=>rfl
 ·have hi:=dd hx;have hw:aq i:=by unfold aq;omega
  obtain⟨I8,nT⟩:=I7 x (List.mem_of_getElem? hx);have wg:=jj I8;have ec:ij out:=⟨show out.length<=2097152 by omega,dl.2⟩
  refine⟨?_,fun aG af=>?_⟩
  ·have hj:=acO ((out,(x.bW,())),()) ec nT (show out.length+x.bW.length<=2097152 by omega)
   simp only[zk,cp hi,cond_true,b6,hx,Option.bind_some,hj,stepT];cases ho out x.bW with
   |none=>rfl
   |some B=>
    simp only;cases dI B with
    |false=>rfl
    |true=>simp only[Bool.not_true,cond_false,cond_true,b0 hw];rfl
  ·simp only[Option.some.injEq] at af;cases hs:stepT out x with
   |none=>rw[hs] at af;cases af
   |some B=>
    rw[hs] at af;cases af;obtain⟨bk,cl⟩:=NH hs;exact⟨jj bk,(Dv _ _ _ nT.2 dl.2 cl).2⟩
 ·simp only[zk,dM,cond_false]
theorem acI(a)(hb:kk a.1.1)(hk:a.1.1.all cH=true):∃out,f109 a=some (((),((gF [] a.1.1).isSome,())),(out,())):=⟨_,aaT a hb hk⟩
theorem Zv(a)(hb:kk a.1.1)(hk:a.1.1.all cH=true):f133 a=some (((),((gF [] a.1.1).isSome,())),((gF [] a.1.1).getD [],())):=by
 obtain⟨⟨ps,u⟩,cn⟩:=a;have hl:ps.length<=2097152:=hb.1;have I7:∀p,p∈ps->dI p.bW=true/\ij p.bW:=by
  intro p hp;have:=List.all_eq_true.1 hk p hp;unfold cH at this;simp only[Bool.and_eq_true] at this;exact⟨this.2,(hb.2 p hp).2.2.2⟩
 have key:FL (((),(ps,((ps.length:Int),((0:Int),())))),(([]:List aA),()))=_:=ly zg ps (fun i (out:List aA)=>(((),(ps,((ps.length:Int),((i:Int),())))),(out,())))
  (fun i p out=>some (match stepT out p with|some B=>.inl B|none=>.inr ((.inl (((),(false,())),(([]:List aA),()))):ay pK))) (fun out=>((.inr (((),()),(out,()))):ay pK))
  (fun i out=>dI out=true/\∀e,e∈out->li e) [] ⟨rfl,fun e h=>by cases h⟩ (fun i x out hx dl=>?_) (fun out _=>?_)
 ·have fold:∀(r:List ba) (k:Nat) (out:List aA),eI (fun i p out=>some (match stepT out p with|some B=>.inl B|none=>.inr ((.inl (((),(false,())),(([]:List aA),()))):ay pK))) (fun out=>((.inr (((),()),(out,()))):ay pK)) k r out=
    some (match gF out r with|some B=>.inr (((),()),(B,()))|none=>.inl (((),(false,())),(([]:List aA),()))):=by
   intro r;induction r with
   |nil=>intro k out;rfl
   |cons p r ih=>
    intro k out;rw[Lk];simp only[eI];cases stepT out p with
    |none=>rfl
    |some B=>simp only[Option.bind_some];exact ih _ _
  rw[fold] at key;simp only[f133,key,Option.bind_some];cases gF [] ps with
  |none=>rfl
  |some B=>rfl
 ·have hi:=dd hx;have hw:aq i:=by unfold aq;omega
  obtain⟨I8,nT⟩:=I7 x (List.mem_of_getElem? hx);have wg:=jj dl.1;have ec:ij out:=⟨show out.length<=2097152 by omega,dl.2⟩
  refine⟨?_,fun aG af=>?_⟩
  ·have hj:=_Z ((out,(x.bW,())),()) ec nT dl.1 I8;simp only[zg,cp hi,cond_true,b6,hx,Option.bind_some,hj,stepT];cases ho out x.bW with
   |none=>rfl
   |some B=>
    simp only;cases dI B with
    |false=>rfl
    |true=>simp only[Bool.not_true,cond_false,cond_true,b0 hw];rfl
  ·simp only[Option.some.injEq] at af;cases hs:stepT out x with
   |none=>rw[hs] at af;cases af
   |some B=>
    rw[hs] at af;cases af;obtain⟨bk,cl⟩:=NH hs;exact⟨bk,(Dv _ _ _ nT.2 dl.2 cl).2⟩
 ·simp only[zg,dM,cond_false]
theorem Z5(a)(hb:kk a.1.1)(hk:a.1.1.all cH=true):∃out,f133 a=some (((),((gF [] a.1.1).isSome,())),(out,())):=⟨_,Zv a hb hk⟩
abbrev NQ:Shape:=⟨[aK 0 .i64,aK 1 .i64,ae 5],[],42⟩
abbrev NC:List aO:=[(.norm,⟨[aK 0 .i64,aK 1 .i64,ae 5],[],42⟩),(.exit 0,⟨[],[],42⟩)]
noncomputable def rC(y:NQ.J):Option (ay NC):=
 bif(!(decide (y.1.2.2.1<(y.1.1.length:Int)))) then
 bif(decide (y.1.2.2.1<(y.1.2.1.length:Int))) then
 some (.inl ((y.1.1,y.1.2.1,y.1.2.2.1,()),()))
else
 some (.inr ((),()))
else
 some (.inl ((y.1.1,y.1.2.1,y.1.2.2.1,()),()))
theorem adr:aW U (an (c8 (an (codeOf Tryz.f238) 1 26)) 52 104) (a_ NQ NC rC):=cS g0 (by kernel_rfl) ag fun y=>by kernel_rfl
abbrev MF:Shape:=⟨[aK 0 .i64,aK 1 .i64,ae 5,ae 6,ae 7],[],42⟩
abbrev Mn:List aO:=[(.norm,⟨[aK 0 .i64,aK 1 .i64,ae 5,ae 6,ae 7],[],42⟩)]
noncomputable def tU(y:MF.J):Option (ay Mn):=
 bif(decide (y.1.2.2.1<(y.1.1.length:Int))) then
(aU y.1.1 y.1.2.2.1).bind fun a=>
 some ((y.1.1,y.1.2.1,y.1.2.2.1,a,y.1.2.2.2.2.1,()),())
else
 some ((y.1.1,y.1.2.1,y.1.2.2.1,y.1.2.2.2.1,y.1.2.2.2.2.1,()),())
theorem abB:aW U (an (c8 (an (codeOf Tryz.f238) 1 26)) 52 3366) (a_ MF Mn tU):=cS g0 (by kernel_rfl) ag fun y=>by kernel_rfl
abbrev ME:Shape:=⟨[aK 0 .i64,aK 1 .i64,ae 5,ae 6,ae 7],[],42⟩
abbrev Mm:List aO:=[(.norm,⟨[aK 0 .i64,aK 1 .i64,ae 5,ae 6,ae 7],[],42⟩)]
noncomputable def tT(y:ME.J):Option (ay Mm):=
 bif(decide (y.1.2.2.1<(y.1.2.1.length:Int))) then
(aU y.1.2.1 y.1.2.2.1).bind fun a=>
 some ((y.1.1,y.1.2.1,y.1.2.2.1,y.1.2.2.2.1,a,()),())
else
 some ((y.1.1,y.1.2.1,y.1.2.2.1,y.1.2.2.2.1,y.1.2.2.2.2.1,()),())
theorem abA:aW U (an (c8 (an (codeOf Tryz.f238) 1 26)) 52 6734) (a_ ME Mm tT):=cS g0 (by kernel_rfl) ag fun y=>by kernel_rfl
abbrev yr:Shape:=⟨[aK 0 .i64,aK 1 .i64,ae 5],[],42⟩
abbrev EV:List aO:=[(.ret,⟨[ae 4],[],42⟩),(.exit 0,⟨[],[],42⟩)]
noncomputable def rO(y:yr.J):bQ yr EV:=
(rC ((y.1.1,y.1.2.1,y.1.2.2.1,()),())).bind fun a=>
(match a with
|.inl b=>
(tU ((b.1.1,b.1.2.1,b.1.2.2.1,((-1):Int),((-1):Int),()),())).bind fun c=>
(tT ((c.1.1,c.1.2.1,c.1.2.2.1,c.1.2.2.2.1,c.1.2.2.2.2.1,()),())).bind fun d=>
 bif(decide (d.1.2.2.2.1<d.1.2.2.2.2.1)) then
 some (.inr (.inl ((((-1):Int),()),())))
else
 bif(decide (d.1.2.2.2.1>d.1.2.2.2.2.1)) then
 some (.inr (.inl (((1:Int),()),())))
else
 some (.inl ((d.1.1,d.1.2.1,(IntKind.i64.wrap (d.1.2.2.1+(1:Int))),()),()))
|.inr e=>
 some (.inr (.inr ((),()))))
noncomputable def ni:yr.J->Option (ay EV):=bx rO
theorem ae5:aW U (an (codeOf Tryz.f238) 1 26) (a_ yr EV ni):=bR g0 (by kernel_rfl) (a' adr (a' abB (a' abA ag))) fun y=>by kernel_rfl
abbrev i238:Shape:=⟨[aK 0 .i64,aK 1 .i64],[],42⟩
abbrev Hu:Shape:=⟨[ae 4],[],42⟩
noncomputable def f238(a:i238.J):Option Hu.J:=
(ni ((a.1.1,a.1.2.1,(0:Int),()),())).bind fun b=>
(match b with
|.inl c=>
 some ((c.1.1,()),())
|.inr d=>
 some (((0:Int),()),()))
noncomputable def Uh:aH:=aP aj Tryz.f238 i238 Hu [] f238
theorem ajt:aF U 238 Uh:=aS g0 Tryz.func238 (by kernel_rfl) (a' ae5 ag) (fun y=>by kernel_rfl) fun a=>by kernel_rfl
noncomputable abbrev alP:bh:=[(140,Il),(238,Uh)]
theorem Vt:a7 U (bg aj alP):=bf ⟨RR,ajt,⟨⟩⟩
abbrev OX:Shape:=⟨[bc 5 3000320,au 6,bc 7 3000448,au 8],[bb 3000320 .i64 5 0,bb 3000448 .i64 7 0],28⟩
abbrev OE:List aO:=[(.norm,⟨[bc 5 3000320,bc 7 3000448,au 24],[bb 3000320 .i64 5 0,bb 3000448 .i64 7 0],28⟩)]
noncomputable def F3(y:OX.J):Option (ay OE):=
 bif(!(!y.1.2.1)) then
 some (((),(),(!y.1.2.2.2.1),()),y.2.1,y.2.2.1,())
else
 some (((),(),true,()),y.2.1,y.2.2.1,())
theorem ae9:aW U (an (codeOf Tryz.f204) 1 60) (a_ OX OE F3):=cS Vt (by kernel_rfl) ag fun y=>by kernel_rfl
abbrev i204:Shape:=⟨[ao 0,ao 1],[],28⟩
abbrev Sx:Shape:=⟨[ae 4],[],28⟩
noncomputable def f204(a:i204.J):Option Sx.J:=
(f140 ((a.1.1,()),())).bind fun b=>
(f140 ((a.1.2.1,()),())).bind fun c=>
(F3 (((),b.1.2.1,(),c.1.2.1,()),b.2.1,c.2.1,())).bind fun d=>
 bif d.1.2.2.1 then
 some (((0:Int),()),())
else
(f238 ((d.2.1,d.2.2.1,()),())).bind fun e=>
 some ((e.1.1,()),())
noncomputable def Uv:aH:=aP aj Tryz.f204 i204 Sx [] f204
theorem ajC:aF U 204 Uv:=aS Vt Tryz.func204 (by kernel_rfl) (a' ae9 ag) (fun y=>by kernel_rfl) fun a=>by kernel_rfl
noncomputable abbrev al9:bh:=[(204,Uv)]
theorem am2:a7 U (bg aj al9):=bf ⟨ajC,⟨⟩⟩
abbrev i161:Shape:=⟨[cB 0 [ai,bo,ai],ao 1,ao 2],[],30⟩
abbrev SZ:Shape:=⟨[au 6],[],30⟩
noncomputable def f161(a:i161.J):Option SZ.J:=
 bif(!(a.1.1.1==a.1.2.1)) then
 some ((false,()),())
else
(f204 ((a.1.2.2.1,a.1.1.2.2.1,()),())).bind fun b=>
 bif(a.1.1.2.1==(1:Int)) then
 some (((b.1.1==(0:Int)),()),())
else
 bif(a.1.1.2.1==(2:Int)) then
 some (((decide (b.1.1>=(0:Int))),()),())
else
 bif(a.1.1.2.1==(3:Int)) then
 some (((decide (b.1.1<(0:Int))),()),())
else
 some ((true,()),())
noncomputable def UT:aH:=aP aj Tryz.f161 i161 SZ [] f161
theorem ajU:aF U 161 UT:=aS am2 Tryz.func161 (by kernel_rfl) ag (fun y=>by kernel_rfl) fun a=>by kernel_rfl
abbrev i288:Shape:=⟨[ae 0],[],6⟩
abbrev R6:Shape:=⟨[au 2],[],6⟩
noncomputable def f288(a:i288.J):Option R6.J:=
 some (((a.1.1 !=a.1.1),()),())
noncomputable def T7:aH:=aP aj Tryz.f288 i288 R6 [] f288
theorem ajh:aF U 288 T7:=aS g0 Tryz.func288 (by kernel_rfl) ag (fun y=>by kernel_rfl) fun a=>by kernel_rfl
noncomputable abbrev alw:bh:=[(288,T7)]
theorem amJ:a7 U (bg aj alw):=bf ⟨ajh,⟨⟩⟩
abbrev i286:Shape:=⟨[ae 0,ae 1],[],20⟩
abbrev R7:Shape:=⟨[ae 4],[],20⟩
noncomputable def f286(a:i286.J):Option R7.J:=
(f288 ((a.1.1,()),())).bind fun b=>
(f288 ((a.1.2.1,()),())).bind fun c=>
 bif b.1.1 then
 bif c.1.1 then
 some (((0:Int),()),())
else
 some ((((-1):Int),()),())
else
 bif c.1.1 then
 some (((1:Int),()),())
else
 bif(decide (a.1.1<a.1.2.1)) then
 some ((((-1):Int),()),())
else
 bif(decide (a.1.1>a.1.2.1)) then
 some (((1:Int),()),())
else
 some (((0:Int),()),())
noncomputable def T8:aH:=aP aj Tryz.f286 i286 R7 [] f286
theorem aji:aF U 286 T8:=aS amJ Tryz.func286 (by kernel_rfl) ag (fun y=>by kernel_rfl) fun a=>by kernel_rfl
noncomputable abbrev alx:bh:=[(286,T8)]
theorem Vp:a7 U (bg aj alx):=bf ⟨aji,⟨⟩⟩
abbrev yn:Shape:=⟨[aK 0 .i64,aK 1 .i64,aK 9 .i64,ae 10,ae 11],[],36⟩
abbrev ER:List aO:=[(.ret,⟨[ae 4],[],36⟩),(.exit 0,⟨[aK 0 .i64,aK 1 .i64],[],36⟩)]
noncomputable def uv(y:yn.J):bQ yn ER:=
 bif(decide (y.1.2.2.2.2.1<y.1.2.2.2.1)) then
(aU y.1.2.2.1 y.1.2.2.2.2.1).bind fun a=>
 bif(decide (y.1.2.2.2.2.1>=(y.1.2.1.length:Int))) then
 some (.inr (.inl (((1:Int),()),())))
else
(aU y.1.2.1 y.1.2.2.2.2.1).bind fun b=>
(f286 ((a,b,()),())).bind fun c=>
 bif(c.1.1 !=(0:Int)) then
 some (.inr (.inl ((c.1.1,()),())))
else
 some (.inl ((y.1.1,y.1.2.1,y.1.2.2.1,y.1.2.2.2.1,(IntKind.i64.wrap (y.1.2.2.2.2.1+(1:Int))),()),()))
else
 some (.inr (.inr ((y.1.1,y.1.2.1,()),())))
noncomputable def oi:yn.J->Option (ay ER):=bx uv
theorem ae1:aW U (an (codeOf Tryz.f281) 1 26) (a_ yn ER oi):=bR Vp (by kernel_rfl) ag fun y=>by kernel_rfl
abbrev i281:Shape:=⟨[aK 0 .i64,aK 1 .i64],[],36⟩
abbrev Ht:Shape:=⟨[ae 4],[],36⟩
noncomputable def f281(a:i281.J):Option Ht.J:=
(oi ((a.1.1,a.1.2.1,a.1.1,(a.1.1.length:Int),(0:Int),()),())).bind fun b=>
(match b with
|.inl c=>
 some ((c.1.1,()),())
|.inr d=>
 bif(decide ((d.1.1.length:Int)<(d.1.2.1.length:Int))) then
 some ((((-1):Int),()),())
else
 some (((0:Int),()),()))
noncomputable def T_:aH:=aP aj Tryz.f281 i281 Ht [] f281
theorem ajk:aF U 281 T_:=aS Vp Tryz.func281 (by kernel_rfl) (a' ae1 ag) (fun y=>by kernel_rfl) fun a=>by kernel_rfl
noncomputable abbrev alA:bh:=[(281,T_)]
theorem amL:a7 U (bg aj alA):=bf ⟨ajk,⟨⟩⟩
abbrev i263:Shape:=⟨[aK 0 .i64,aK 1 .i64],[],8⟩
abbrev Sc:Shape:=⟨[ae 4],[],8⟩
noncomputable def f263(a:i263.J):Option Sc.J:=
(f281 ((a.1.1,a.1.2.1,()),())).bind fun b=>
 some ((b.1.1,()),())
noncomputable def Ud:aH:=aP aj Tryz.f263 i263 Sc [] f263
theorem ajp:aF U 263 Ud:=aS amL Tryz.func263 (by kernel_rfl) ag (fun y=>by kernel_rfl) fun a=>by kernel_rfl
noncomputable abbrev alF:bh:=[(151,Ik),(263,Ud)]
theorem Vq:a7 U (bg aj alF):=bf ⟨RQ,ajp,⟨⟩⟩
abbrev OV:Shape:=⟨[bc 5 3000320,au 6,bc 7 3000448,au 8],[bb 3000320 .i64 5 0,bb 3000448 .i64 7 0],28⟩
abbrev OC:List aO:=[(.norm,⟨[bc 5 3000320,bc 7 3000448,au 24],[bb 3000320 .i64 5 0,bb 3000448 .i64 7 0],28⟩)]
noncomputable def F2(y:OV.J):Option (ay OC):=
 bif(!(!y.1.2.1)) then
 some (((),(),(!y.1.2.2.2.1),()),y.2.1,y.2.2.1,())
else
 some (((),(),true,()),y.2.1,y.2.2.1,())
theorem ae6:aW U (an (codeOf Tryz.f227) 1 60) (a_ OV OC F2):=cS Vq (by kernel_rfl) ag fun y=>by kernel_rfl
abbrev i227:Shape:=⟨[ao 0,ao 1],[],28⟩
abbrev Sk:Shape:=⟨[ae 4],[],28⟩
noncomputable def f227(a:i227.J):Option Sk.J:=
(f151 ((a.1.1,()),())).bind fun b=>
(f151 ((a.1.2.1,()),())).bind fun c=>
(F2 (((),b.2.2.2.1.1,(),c.2.2.2.1.1,()),b.2.1,c.2.1,())).bind fun d=>
 bif d.1.2.2.1 then
 some (((0:Int),()),())
else
(f263 ((d.2.1,d.2.2.1,()),())).bind fun e=>
 some ((e.1.1,()),())
noncomputable def Um:aH:=aP aj Tryz.f227 i227 Sk [] f227
theorem z227:aF U 227 Um:=aS Vq Tryz.func227 (by kernel_rfl) (a' ae6 ag) (fun y=>by kernel_rfl) fun a=>by kernel_rfl
noncomputable abbrev alX:bh:=[(100,Bd),(102,vx),(227,Um)]
theorem Vw:a7 U (bg aj alX):=bf ⟨Hj,AU,z227,⟨⟩⟩
abbrev OZ:Shape:=⟨[ao 1,ao 2,aM 3 3 0],[aL 3 [ai,bo,ai]],44⟩
abbrev OG:List aO:=[(.norm,⟨[ao 2,aM 3 3 0,au 20],[aL 3 [ai,bo,ai]],44⟩)]
noncomputable def F5(y:OZ.J):Option (ay OG):=
(f102 (((y.2.1.1,y.2.1.2.1,y.2.1.2.2.1,()),()),())).bind fun a=>
 bif(!(!a.1.1)) then
(f100 ((y.1.2.1,()),())).bind fun b=>
 bif(!(!b.1.1)) then
 some ((y.1.2.1,(),(!(y.1.1==y.2.1.1)),()),(y.2.1.1,y.2.1.2.1,y.2.1.2.2.1,()),())
else
 some ((y.1.2.1,(),true,()),(y.2.1.1,y.2.1.2.1,y.2.1.2.2.1,()),())
else
 some ((y.1.2.1,(),true,()),(y.2.1.1,y.2.1.2.1,y.2.1.2.2.1,()),())
theorem afg:aW U (an (codeOf Tryz.f183) 1 12) (a_ OZ OG F5):=cS Vw (by kernel_rfl) ag fun y=>by kernel_rfl
abbrev i183:Shape:=⟨[cB 0 [ai,bo,ai],ao 1,ao 2],[],44⟩
abbrev SO:Shape:=⟨[au 6],[],44⟩
noncomputable def f183(a:i183.J):Option SO.J:=
(F5 ((a.1.2.1,a.1.2.2.1,(),()),(a.1.1.1,a.1.1.2.1,a.1.1.2.2.1,()),())).bind fun b=>
 bif b.1.2.2.1 then
 some ((false,()),())
else
 bif(b.2.1.2.1==(1:Int)) then
(f227 ((b.1.1,b.2.1.2.2.1,()),())).bind fun c=>
 some (((c.1.1==(0:Int)),()),())
else
 bif(b.2.1.2.1==(2:Int)) then
(f227 ((b.1.1,b.2.1.2.2.1,()),())).bind fun d=>
 some (((decide (d.1.1>=(0:Int))),()),())
else
 bif(b.2.1.2.1==(3:Int)) then
(f227 ((b.1.1,b.2.1.2.2.1,()),())).bind fun e=>
 some (((decide (e.1.1<(0:Int))),()),())
else
 some ((true,()),())
noncomputable def UJ:aH:=aP aj Tryz.f183 i183 SO [] f183
theorem z183:aF U 183 UJ:=aS Vw Tryz.func183 (by kernel_rfl) (a' afg ag) (fun y=>by kernel_rfl) fun a=>by kernel_rfl
def oJ:List Int->List Int->Int
 |[],[]=>0
 |[],_::_=>-1
 |_::_,[]=>1
 |x::a,y::b=>bif decide (x<y) then-1 else bif decide (x>y) then 1 else oJ a b
theorem drop_cons{aB:Type}{xs:List aB}{k:Nat}{x:aB}{r:List aB}(h:xs.drop k=x::r):xs[k]? =some x/\xs.drop (k+1)=r/\k<xs.length:=by
 have h1:xs[k]? =some x:=by
  have:=congrArg (fun l=>l[0]?) h
  simpa using this
 refine⟨h1,?_,dd h1⟩;have:=congrArg List.tail h;simpa using this
theorem drop_nil{aB:Type}{xs:List aB}{k:Nat}(h:xs.drop k=[]):xs.length<=k:=by
 have:=congrArg List.length h;simp at this;omega
theorem aaY(a)(h1:cZ a.1.1.length)(h2:cZ a.1.2.1.length)(jf:∀x,x∈a.1.1->0<=x)(iK:∀x,x∈a.1.2.1->0<=x):f238 a=some ((oJ a.1.1 a.1.2.1,()),()):=by
 obtain⟨⟨xs,bd,u⟩,cn⟩:=a;have h1:xs.length<=2097152:=h1;have h2:bd.length<=2097152:=h2;have jf:∀x:Int,x∈xs->0<=x:=jf;have iK:∀x:Int,x∈bd->0<=x:=iK;have key:∀(n:Nat) (us ws:List Int) (k:Nat),us.length+ws.length=n->xs.drop k=us->bd.drop k=ws->k<=2097152->
   (ni ((xs,(bd,((k:Int),()))),())).bind (fun akC=>(match akC with|.inl akB=>some ((akB.1.1,()),())|.inr asU=>some (((0:Int),()),()):Option Hu.J))=some ((oJ us ws,()),()):=by
  intro n;induction n using Nat.strongRecOn with
  |_ n ih=>
   intro us ws k hn ha hb hk;have hw:aq k:=by unfold aq;omega
   match us,ws with
   |[],[]=>
    have c1:=drop_nil ha;have c2:=drop_nil hb;have d1:decide ((k:Int)<(xs.length:Int))=false:=by simp only[decide_eq_false_iff_not];omega
    have d2:decide ((k:Int)<(bd.length:Int))=false:=by simp only[decide_eq_false_iff_not];omega
    have:ni ((xs,(bd,((k:Int),()))),())=some (.inr ((),())):=by
     refine cm ?_
     simp only[rO,rC,d1,d2,Bool.not_false,cond_true,cond_false,Option.bind_some]
    rw[this];rfl
   |[],y::ws=>
    have c1:=drop_nil ha;obtain⟨c2,c3,c5⟩:=drop_cons hb;have hy:=iK y (List.mem_of_getElem? c2);have d1:decide ((k:Int)<(xs.length:Int))=false:=by simp only[decide_eq_false_iff_not];omega
    have d3:decide ((-1:Int)<y)=true:=by simp only[decide_eq_true_eq];omega
    have:ni ((xs,(bd,((k:Int),()))),())=some (.inl ((((-1):Int),()),())):=by
     refine cm ?_
     simp only[rO,rC,tU,tT,d1,cp c5,b6,c2,Bool.not_false,cond_true,cond_false,Option.bind_some,d3]
    rw[this];rfl
   |x::us,[]=>
    have c1:=drop_nil hb;obtain⟨c2,c3,c5⟩:=drop_cons ha;have hx:=jf x (List.mem_of_getElem? c2);have d1:decide ((k:Int)<(bd.length:Int))=false:=by simp only[decide_eq_false_iff_not];omega
    have d3:decide (x<(-1:Int))=false:=by simp only[decide_eq_false_iff_not];omega
    have d4:decide (x>(-1:Int))=true:=by simp only[decide_eq_true_eq];omega
    have:ni ((xs,(bd,((k:Int),()))),())=some (.inl (((1:Int),()),())):=by
     refine cm ?_
     simp only[rO,rC,tU,tT,d1,cp c5,b6,c2,Bool.not_true,cond_true,cond_false,Option.bind_some,d3,d4]
    rw[this];rfl
   |x::us,y::ws=>
    obtain⟨c2,c3,c5⟩:=drop_cons ha;obtain⟨e2,bz,dw⟩:=drop_cons hb;have step:rO ((xs,(bd,((k:Int),()))),())=some (bif decide (x<y) then .inr (.inl ((((-1):Int),()),())) else bif decide (x>y) then .inr (.inl (((1:Int),()),())) else .inl ((xs,(bd,(((k+1:Nat):Int),()))),())):=by
     simp only[rO,rC,tU,tT,cp c5,cp dw,b6,c2,e2,Bool.not_true,cond_true,cond_false,Option.bind_some,b0 hw];cases decide (x<y)<;>cases decide (x>y)<;>rfl
    rw[oJ];cases hlt:decide (x<y) with
    |true=>rw[hlt,cond_true] at step;rw[show ni ((xs,(bd,((k:Int),()))),())=_ from cm step];rfl
    |false=>
     rw[hlt,cond_false] at step;cases qE:decide (x>y) with
     |true=>rw[qE,cond_true] at step;rw[show ni ((xs,(bd,((k:Int),()))),())=_ from cm step];rfl
     |false=>
      rw[qE,cond_false] at step;rw[show ni ((xs,(bd,((k:Int),()))),())=_ from dD step]
      exact ih (us.length+ws.length) (by simp only[List.length_cons] at hn;omega) us ws (k+1) rfl c3 bz (by omega)
 have:=key _ xs bd 0 rfl rfl rfl (Nat.zero_le _);simp only[f238];exact this
theorem acR(a):f286 a=some ((bif decide (a.1.1<a.1.2.1) then-1 else bif decide (a.1.1>a.1.2.1) then 1 else 0,()),()):=by
 obtain⟨⟨x,y,u⟩,cn⟩:=a;have hx:(x !=x)=false:=by simp
 have hy:(y !=y)=false:=by simp
 simp only[f286,f288,Option.bind_some,hx,hy,cond_false];cases decide (x<y)<;>cases decide (x>y)<;>rfl
theorem aba(a)(h1:cZ a.1.1.length)(h2:cZ a.1.2.1.length):f281 a=some ((oJ a.1.1 a.1.2.1,()),()):=by
 obtain⟨⟨xs,bd,u⟩,cn⟩:=a;have h1:xs.length<=2097152:=h1;have h2:bd.length<=2097152:=h2;have key:∀(us ws:List Int) (k:Nat),xs.drop k=us->bd.drop k=ws->k<=xs.length->
   (oi ((xs,(bd,(xs,((xs.length:Int),((k:Int),()))))),())).bind (fun aiy=>(match aiy with
    |.inl aix=>some ((aix.1.1,()),())
    |.inr Re=>bif(decide ((Re.1.1.length:Int)<(Re.1.2.1.length:Int))) then some ((((-1):Int),()),()) else some (((0:Int),()),()):Option Ht.J))=some ((oJ us ws,()),()):=by
  intro us;induction us with
  |nil=>
   intro ws k ha hb hk;have c1:=drop_nil ha;have d1:decide ((k:Int)<(xs.length:Int))=false:=by simp only[decide_eq_false_iff_not];omega
   have:oi ((xs,(bd,(xs,((xs.length:Int),((k:Int),()))))),())=some (.inr ((xs,(bd,())),())):=by
    refine cm ?_
    simp only[uv,d1,cond_false]
   rw[this];simp only[Option.bind_some];cases ws with
   |nil=>
    have c2:=drop_nil hb;have:decide ((xs.length:Int)<(bd.length:Int))=false:=by simp only[decide_eq_false_iff_not];omega
    rw[this];rfl
   |cons y ws=>
    obtain⟨_,_,c5⟩:=drop_cons hb;rw[cp (show xs.length<bd.length by omega)];rfl
  |cons x us ih=>
   intro ws k ha hb hk;obtain⟨c2,c3,c5⟩:=drop_cons ha;have hw:aq k:=by unfold aq;omega
   cases ws with
   |nil=>
    have c1:=drop_nil hb;have d1:decide ((k:Int)>=(bd.length:Int))=true:=by simp only[decide_eq_true_eq];omega
    have:oi ((xs,(bd,(xs,((xs.length:Int),((k:Int),()))))),())=some (.inl (((1:Int),()),())):=by
     refine cm ?_
     simp only[uv,cp c5,cond_true,b6,c2,Option.bind_some,d1]
    rw[this];rfl
   |cons y ws=>
    obtain⟨e2,bz,dw⟩:=drop_cons hb;have d1:decide ((k:Int)>=(bd.length:Int))=false:=by simp only[decide_eq_false_iff_not];omega
    have step:uv ((xs,(bd,(xs,((xs.length:Int),((k:Int),()))))),())=some (bif decide (x<y) then .inr (.inl ((((-1):Int),()),())) else bif decide (x>y) then .inr (.inl (((1:Int),()),())) else .inl ((xs,(bd,(xs,((xs.length:Int),(((k+1:Nat):Int),()))))),())):=by
     simp only[uv,cp c5,b6,c2,e2,d1,cond_true,cond_false,Option.bind_some,acR,b0 hw];cases decide (x<y)<;>cases decide (x>y)<;>rfl
    rw[oJ];cases hlt:decide (x<y) with
    |true=>rw[hlt,cond_true] at step;rw[show oi ((xs,(bd,(xs,((xs.length:Int),((k:Int),()))))),())=_ from cm step];rfl
    |false=>
     rw[hlt,cond_false] at step;cases qE:decide (x>y) with
     |true=>rw[qE,cond_true] at step;rw[show oi ((xs,(bd,(xs,((xs.length:Int),((k:Int),()))))),())=_ from cm step];rfl
     |false=>
      rw[qE,cond_false] at step;rw[show oi ((xs,(bd,(xs,((xs.length:Int),((k:Int),()))))),())=_ from dD step]
      exact ih ws (k+1) c3 bz (by omega)
 have:=key xs bd 0 rfl rfl (Nat.zero_le _);simp only[f281];exact this
def qc(a b:F):Int:=bif dY a&&dY b then oJ (hd a) (hd b) else 0
theorem K3{s:F}(h:dY s=true):∀x,x∈hd s->0<=x:=by
 intro x hx;unfold hd at hx;obtain⟨p,hp,rfl⟩:=List.mem_map.1 hx;unfold dY at h;simp only[Bool.and_eq_true] at h;have:=List.all_eq_true.1 h.1 p hp;unfold fj at this;simp only[Bool.and_eq_true] at this;exact LM p 0 this.1.1.1.1 (Int.le_refl _)
theorem xh(s:F):(hd s).length<=s.length+1:=by
 unfold hd hQ;rw[List.length_map];exact rb 46 s
theorem Y2(a)(h1:a.1.1.length<=2097151)(h2:a.1.2.1.length<=2097151):f204 a=some ((qc a.1.1 a.1.2.1,()),()):=by
 obtain⟨⟨x,y,u⟩,cn⟩:=a;have h1:x.length<=2097151:=h1;have h2:y.length<=2097151:=h2;obtain⟨o1,e1,q1⟩:=C1 ((x,()),()) (show x.length<=2097152 by omega)
 obtain⟨o2,e2,q2⟩:=C1 ((y,()),()) (show y.length<=2097152 by omega)
 simp only[f204,e1,e2,Option.bind_some,F3,qc,Bool.not_not];cases hx:dY x with
 |false=>rfl
 |true=>
  cases hy:dY y with
  |false=>rfl
  |true=>
   have aoL:=xh x;have BG:=xh y;have aN:o1=hd x:=q1 hx;have w2:o2=hd y:=q2 hy;subst aN w2;have bz:=aaY ((hd x,(hd y,())),()) (show(hd x).length<=2097152 by omega) (show(hd y).length<=2097152 by omega) (K3 hx) (K3 hy)
   simp only[cond_true,Bool.not_true,Option.bind_some,cond_false,bz,Bool.and_self]
theorem YW(a)(h1:a.1.1.length<=2097151)(h2:a.1.2.1.length<=2097151):f227 a=some ((qc a.1.1 a.1.2.1,()),()):=by
 obtain⟨⟨x,y,u⟩,cn⟩:=a;have h1:x.length<=2097151:=h1;have h2:y.length<=2097151:=h2;have e1:=Cu ((x,()),()) (show x.length<=2097152 by omega)
 have e2:=Cu ((y,()),()) (show y.length<=2097152 by omega)
 simp only[f227,e1,e2,Option.bind_some,F2,qc,Bool.not_not];cases hx:dY x with
 |false=>rfl
 |true=>
  cases hy:dY y with
  |false=>rfl
  |true=>
   have aoL:=xh x;have BG:=xh y;have bz:=aba ((hd x,(hd y,())),()) (show(hd x).length<=2097152 by omega) (show(hd y).length<=2097152 by omega)
   simp only[cond_true,Bool.not_true,Option.bind_some,cond_false,f263,bz,Bool.and_self]
def sz(n:bB)(v:F):Bool:=bif n.kind==1 then qc v n.a8==0 else bif n.kind==2 then decide (qc v n.a8>=0) else bif n.kind==3 then decide (qc v n.a8<0) else true
theorem acL(a)(h1:a.1.1.2.2.1.length<=2097151)(h2:a.1.2.2.1.length<=2097151)(hn:a.1.2.1=a.1.1.1):f161 a=some ((sz ⟨a.1.1.1,a.1.1.2.1,a.1.1.2.2.1⟩ a.1.2.2.1,()),()):=by
 obtain⟨⟨⟨n,k,v,u⟩,m,w,cn⟩,nI⟩:=a;obtain rfl:m=n:=hn;have e1:=Y2 ((w,(v,())),()) h2 h1;have eS:(m==m)=true:=by simp
 simp only[f161,eS,e1,Bool.not_true,cond_false,Option.bind_some,sz];cases (k==1)<;>cases (k==2)<;>cases (k==3)<;>rfl
def k1(n:bB)(name v:F):Bool:=dp n&&dY v&&(name==n.name)&&sz n v
theorem _0(a)(h0:cZ a.1.1.1.length)(h1:a.1.1.2.2.1.length<=2097151)(h2:a.1.2.2.1.length<=2097151):f183 a=some ((k1 ⟨a.1.1.1,a.1.1.2.1,a.1.1.2.2.1⟩ a.1.2.1 a.1.2.2.1,()),()):=by
 obtain⟨⟨⟨n,k,v,u⟩,m,w,cn⟩,nI⟩:=a;have h1:v.length<=2097151:=h1;have h2:w.length<=2097151:=h2;have e1:=YW ((w,(v,())),()) h2 h1;have e2:=xk (((n,(k,(v,()))),()),()) h0 (show v.length<=2097152 by omega)
 have bz:=Cx ((w,()),()) (show w.length<=2097152 by omega)
 simp only[f183,F5,e1,e2,bz,Bool.not_not,Option.bind_some,k1,sz];cases dp ⟨n,k,v⟩ with
 |false=>rfl
 |true=>
  cases dY w with
  |false=>rfl
  |true=>
   cases (m==n) with
   |false=>rfl
   |true=>
    simp only[cond_true,Bool.not_true,Option.bind_some,cond_false,Bool.true_and];cases (k==1)<;>cases (k==2)<;>cases (k==3)<;>simp only[cond_true,cond_false,Option.bind_some,e1]
abbrev yB:Shape:=⟨[aK 0 .pack,ao 1,ae 5],[],20⟩
abbrev E3:List aO:=[(.ret,⟨[ae 4],[],20⟩),(.exit 0,⟨[],[],20⟩)]
noncomputable def zb(y:yB.J):bQ yB E3:=
 bif(decide (y.1.2.2.1<(y.1.1.length:Int))) then
(aU y.1.1 y.1.2.2.1).bind fun a=>
 bif(a.name==y.1.2.1) then
 some (.inr (.inl ((y.1.2.2.1,()),())))
else
 some (.inl ((y.1.1,y.1.2.1,(IntKind.i64.wrap (y.1.2.2.1+(1:Int))),()),()))
else
 some (.inr (.inr ((),())))
noncomputable def rK:yB.J->Option (ay E3):=bx zb
theorem afn:aW U (an (codeOf Tryz.f160) 1 26) (a_ yB E3 rK):=bR g0 (by kernel_rfl) ag fun y=>by kernel_rfl
abbrev i160:Shape:=⟨[aK 0 .pack,ao 1],[],20⟩
abbrev S0:Shape:=⟨[ae 4],[],20⟩
noncomputable def f160(a:i160.J):Option S0.J:=
(rK ((a.1.1,a.1.2.1,(0:Int),()),())).bind fun b=>
(match b with
|.inl c=>
 some ((c.1.1,()),())
|.inr d=>
 some ((((-1):Int),()),()))
noncomputable def UU:aH:=aP aj Tryz.f160 i160 S0 [] f160
theorem z160:aF U 160 UU:=aS g0 Tryz.func160 (by kernel_rfl) (a' afn ag) (fun y=>by kernel_rfl) fun a=>by kernel_rfl
noncomputable abbrev amD:bh:=[(160,UU),(161,UT)]
theorem Bk:a7 U (bg aj amD):=bf ⟨z160,ajU,⟨⟩⟩
abbrev Lu:Shape:=⟨[aK 0 .pack,ae 3,ae 4,aM 5 5 0,ae 6],[aL 5 [ai,bo,ai]],49⟩
abbrev Lo:List aO:=[(.norm,⟨[aK 0 .pack,ae 3,ae 4,ae 35,au 36,au 37,au 48],[],49⟩)]
noncomputable def w0(y:Lu.J):Option (ay Lo):=
 bif(decide (y.1.2.2.2.2.1<(0:Int))) then
 some ((y.1.1,y.1.2.1,y.1.2.2.1,y.1.2.2.2.2.1,(decide (y.1.2.2.2.2.1<(0:Int))),true,true,()),())
else
(aU y.1.1 y.1.2.2.2.2.1).bind fun a=>
(f161 (((y.2.1.1,y.2.1.2.1,y.2.1.2.2.1,()),y.2.1.1,a.a8,()),())).bind fun b=>
 some ((y.1.1,y.1.2.1,y.1.2.2.1,y.1.2.2.2.2.1,(decide (y.1.2.2.2.2.1<(0:Int))),false,(!b.1.1),()),())
theorem _n:aW U (an (c8 (an (c8 (an (codeOf Tryz.f110) 1 26)) 52 1682)) 3364 215334) (a_ Lu Lo w0):=cS Bk (by kernel_rfl) ag fun y=>by kernel_rfl
abbrev xy:Shape:=⟨[aK 0 .pack,ae 3,ae 4],[],49⟩
abbrev C':List aO:=[(.ret,⟨[au 2],[],49⟩),(.exit 2,⟨[aK 0 .pack,ae 3],[],49⟩)]
noncomputable def xI(y:xy.J):bQ xy C':=
(aU y.1.1 y.1.2.1).bind fun a=>
 bif(decide (y.1.2.2.1<(a.bm.length:Int))) then
(aU y.1.1 y.1.2.1).bind fun b=>
(aU b.bm y.1.2.2.1).bind fun c=>
(f160 ((y.1.1,c.name,()),())).bind fun d=>
(w0 ((y.1.1,y.1.2.1,y.1.2.2.1,(),d.1.1,()),(c.name,c.kind,c.a8,()),())).bind fun e=>
 bif e.1.2.2.2.2.2.2.1 then
 some (.inr (.inl ((false,()),())))
else
 some (.inl ((e.1.1,e.1.2.1,(IntKind.i64.wrap (e.1.2.2.1+(1:Int))),()),()))
else
 some (.inr (.inr ((y.1.1,y.1.2.1,()),())))
noncomputable def Ds:xy.J->Option (ay C'):=bx xI
theorem abS:aW U (an (c8 (an (codeOf Tryz.f110) 1 26)) 52 1682) (a_ xy C' Ds):=bR Bk (by kernel_rfl) (a' _n ag) fun y=>by kernel_rfl
abbrev yR:Shape:=⟨[aK 0 .pack,ae 3],[],49⟩
abbrev Fh:List aO:=[(.ret,⟨[au 2],[],49⟩),(.exit 0,⟨[],[],49⟩)]
noncomputable def zj(y:yR.J):bQ yR Fh:=
 bif(decide (y.1.2.1<(y.1.1.length:Int))) then
(Ds ((y.1.1,y.1.2.1,(0:Int),()),())).bind fun a=>
(match a with
|.inl b=>
 some (.inr (.inl ((b.1.1,()),())))
|.inr c=>
 some (.inl ((c.1.1,(IntKind.i64.wrap (c.1.2.1+(1:Int))),()),())))
else
 some (.inr (.inr ((),())))
noncomputable def FO:yR.J->Option (ay Fh):=bx zj
theorem afG:aW U (an (codeOf Tryz.f110) 1 26) (a_ yR Fh FO):=bR Bk (by kernel_rfl) (a' abS ag) fun y=>by kernel_rfl
abbrev i110:Shape:=⟨[aK 0 .pack],[],49⟩
abbrev Tv:Shape:=⟨[au 2],[],49⟩
noncomputable def f110(a:i110.J):Option Tv.J:=
(FO ((a.1.1,(0:Int),()),())).bind fun b=>
(match b with
|.inl c=>
 some ((c.1.1,()),())
|.inr d=>
 some ((true,()),()))
noncomputable def Vm:aH:=aP aj Tryz.f110 i110 Tv [] f110
theorem aka:aF U 110 Vm:=aS Bk Tryz.func110 (by kernel_rfl) (a' afG ag) (fun y=>by kernel_rfl) fun a=>by kernel_rfl
noncomputable abbrev ah3:bh:=[(54,RF),(56,XE)]
theorem Q5:a7 U (bg aj ah3):=bf ⟨aie,ant,⟨⟩⟩
abbrev MM:Shape:=⟨[(0,.ak (.et [.sl .pack] 0))],[],10⟩
abbrev Mu:List aO:=[(.norm,⟨[au 9],[],10⟩)]
noncomputable def DC(y:MM.J):Option (ay Mu):=
(AI ((y.1.1.1,(),()),())).bind fun a=>
 bif(!(!a.1.1)) then
(f56 ((y.1.1.1,()),())).bind fun b=>
 some (((!b.1.1),()),())
else
 some ((true,()),())
theorem abN:aW U (an (codeOf Tryz.f128) 1 12) (a_ MM Mu DC):=cS Q5 (by kernel_rfl) ag fun y=>by kernel_rfl
abbrev QA:Shape:=⟨[(0,.ak (.et [.sl .pack] 0))],[],10⟩
abbrev Qh:Shape:=⟨[ae 1],[],10⟩
noncomputable def se(a:QA.J):Option Qh.J:=
(DC (((a.1.1.1,()),()),())).bind fun b=>
 bif b.1.1 then
 some (((1:Int),()),())
else
 some (((0:Int),()),())
noncomputable def QZ:aH:=aP aj Tryz.f128 QA Qh [] se
theorem agB:aF U 128 QZ:=aS Q5 Tryz.func128 (by kernel_rfl) (a' abN ag) (fun y=>by kernel_rfl) fun a=>by kernel_rfl
abbrev Qz:Shape:=⟨[(0,.ak (.et [.sl .pack] 0))],[],5⟩
abbrev Qg:Shape:=⟨[ae 1],[],5⟩
noncomputable def sd(a:Qz.J):Option Qg.J:=
 bif(decide ((a.1.1.1.length:Int)>(5:Int))) then
 some (((6:Int),()),())
else
 some (((0:Int),()),())
noncomputable def QY:aH:=aP aj Tryz.f129 Qz Qg [] sd
theorem agA:aF U 129 QY:=aS g0 Tryz.func129 (by kernel_rfl) ag (fun y=>by kernel_rfl) fun a=>by kernel_rfl
noncomputable abbrev ah0:bh:=[(183,UJ)]
theorem ah7:a7 U (bg aj ah0):=bf ⟨z183,⟨⟩⟩
abbrev Qw:Shape:=⟨[cB 0 [ai,ai,cW .need,cW .entry],(1,.ak (.et [.str,.int .i64,.str] 0))],[],10⟩
abbrev Qd:Shape:=⟨[au 3],[],10⟩
noncomputable def GW(a:Qw.J):Option Qd.J:=
(f183 (((a.1.2.1.1,a.1.2.1.2.1,a.1.2.1.2.2.1,()),a.1.1.1,a.1.1.2.1,()),())).bind fun b=>
 some ((b.1.1,()),())
noncomputable def QV:aH:=aP aj Tryz.f182 Qw Qd [] GW
theorem agx:aF U 182 QV:=aS ah7 Tryz.func182 (by kernel_rfl) ag (fun y=>by kernel_rfl) fun a=>by kernel_rfl
noncomputable abbrev ahY:bh:=[(182,QV)]
theorem Q4:a7 U (bg aj ahY):=bf ⟨agx,⟨⟩⟩
abbrev xr:Shape:=⟨[aK 0 .pack,(1,.ak (.fn 182 [[.str,.int .i64,.str]])),ae 7,ae 8],[],19⟩
abbrev C5:List aO:=[(.ret,⟨[ae 4],[],19⟩),(.exit 0,⟨[],[],19⟩)]
noncomputable def xD(y:xr.J):bQ xr C5:=
 bif(decide (y.1.2.2.2.1<y.1.2.2.1)) then
(aU y.1.1 y.1.2.2.2.1).bind fun a=>
(GW (((a.name,a.a8,a.bm,a.bW,()),(y.1.2.1.1.1,y.1.2.1.1.2.1,y.1.2.1.1.2.2.1,()),()),())).bind fun b=>
 bif b.1.1 then
 some (.inr (.inl ((y.1.2.2.2.1,()),())))
else
 some (.inl ((y.1.1,((y.1.2.1.1.1,y.1.2.1.1.2.1,y.1.2.1.1.2.2.1,()),()),y.1.2.2.1,(IntKind.i64.wrap (y.1.2.2.2.1+(1:Int))),()),()))
else
 some (.inr (.inr ((),())))
noncomputable def rp:xr.J->Option (ay C5):=bx xD
theorem abD:aW U (an (codeOf Tryz.f228) 1 26) (a_ xr C5 rp):=bR Q4 (by kernel_rfl) ag fun y=>by kernel_rfl
abbrev Qu:Shape:=⟨[aK 0 .pack,(1,.ak (.fn 182 [[.str,.int .i64,.str]]))],[],19⟩
abbrev Gz:Shape:=⟨[ae 4],[],19⟩
noncomputable def Ai(a:Qu.J):Option Gz.J:=
(rp ((a.1.1,((a.1.2.1.1.1,a.1.2.1.1.2.1,a.1.2.1.1.2.2.1,()),()),(a.1.1.length:Int),(0:Int),()),())).bind fun b=>
(match b with
|.inl c=>
 some ((c.1.1,()),())
|.inr d=>
 some ((((-1):Int),()),()))
noncomputable def QT:aH:=aP aj Tryz.f228 Qu Gz [] Ai
theorem agv:aF U 228 QT:=aS Q4 Tryz.func228 (by kernel_rfl) (a' abD ag) (fun y=>by kernel_rfl) fun a=>by kernel_rfl
noncomputable abbrev ahZ:bh:=[(228,QT)]
theorem ah6:a7 U (bg aj ahZ):=bf ⟨agv,⟨⟩⟩
abbrev Qv:Shape:=⟨[aK 0 .pack,(1,.ak (.fn 182 [[.str,.int .i64,.str]]))],[],9⟩
abbrev Qc:Shape:=⟨[au 4],[],9⟩
noncomputable def Aj(a:Qv.J):Option Qc.J:=
(Ai ((a.1.1,((a.1.2.1.1.1,a.1.2.1.1.2.1,a.1.2.1.1.2.2.1,()),()),()),())).bind fun b=>
 some (((decide (b.1.1>=(0:Int))),()),())
noncomputable def QU:aH:=aP aj Tryz.f184 Qv Qc [] Aj
theorem agw:aF U 184 QU:=aS ah6 Tryz.func184 (by kernel_rfl) ag (fun y=>by kernel_rfl) fun a=>by kernel_rfl
noncomputable abbrev ams:bh:=[(184,QU)]
theorem Iv:a7 U (bg aj ams):=bf ⟨agw,⟨⟩⟩
abbrev xv:Shape:=⟨[aK 0 .pack,aK 8 .pack,ae 9,ae 10,aK 15 .need,ae 16,ae 17],[],28⟩
abbrev C8:List aO:=[(.ret,⟨[au 2],[],28⟩),(.exit 2,⟨[aK 0 .pack,aK 8 .pack,ae 9,ae 10],[],28⟩)]
noncomputable def xG(y:xv.J):bQ xv C8:=
 bif(decide (y.1.2.2.2.2.2.2.1<y.1.2.2.2.2.2.1)) then
(aU y.1.2.2.2.2.1 y.1.2.2.2.2.2.2.1).bind fun a=>
(Aj ((y.1.1,((a.name,a.kind,a.a8,()),()),()),())).bind fun b=>
 bif(!b.1.1) then
 some (.inr (.inl ((false,()),())))
else
 some (.inl ((y.1.1,y.1.2.1,y.1.2.2.1,y.1.2.2.2.1,y.1.2.2.2.2.1,y.1.2.2.2.2.2.1,(IntKind.i64.wrap (y.1.2.2.2.2.2.2.1+(1:Int))),()),()))
else
 some (.inr (.inr ((y.1.1,y.1.2.1,y.1.2.2.1,y.1.2.2.2.1,()),())))
noncomputable def Dp:xv.J->Option (ay C8):=bx xG
theorem abM:aW U (an (c8 (an (codeOf Tryz.f131) 1 26)) 52 6758) (a_ xv C8 Dp):=bR Iv (by kernel_rfl) ag fun y=>by kernel_rfl
abbrev yM:Shape:=⟨[aK 0 .pack,aK 8 .pack,ae 9,ae 10],[],28⟩
abbrev Fb:List aO:=[(.ret,⟨[au 2],[],28⟩),(.exit 0,⟨[],[],28⟩)]
noncomputable def zh(y:yM.J):bQ yM Fb:=
 bif(decide (y.1.2.2.2.1<y.1.2.2.1)) then
(aU y.1.2.1 y.1.2.2.2.1).bind fun a=>
(Dp ((y.1.1,y.1.2.1,y.1.2.2.1,y.1.2.2.2.1,a.bm,(a.bm.length:Int),(0:Int),()),())).bind fun b=>
(match b with
|.inl c=>
 some (.inr (.inl ((c.1.1,()),())))
|.inr d=>
 some (.inl ((d.1.1,d.1.2.1,d.1.2.2.1,(IntKind.i64.wrap (d.1.2.2.2.1+(1:Int))),()),())))
else
 some (.inr (.inr ((),())))
noncomputable def FM:yM.J->Option (ay Fb):=bx zh
theorem afA:aW U (an (codeOf Tryz.f131) 1 26) (a_ yM Fb FM):=bR Iv (by kernel_rfl) (a' abM ag) fun y=>by kernel_rfl
abbrev i131:Shape:=⟨[aK 0 .pack],[],28⟩
abbrev Tk:Shape:=⟨[au 2],[],28⟩
noncomputable def f131(a:i131.J):Option Tk.J:=
(FM ((a.1.1,a.1.1,(a.1.1.length:Int),(0:Int),()),())).bind fun b=>
(match b with
|.inl c=>
 some ((c.1.1,()),())
|.inr d=>
 some ((true,()),()))
noncomputable def Vd:aH:=aP aj Tryz.f131 i131 Tk [] f131
theorem z131:aF U 131 Vd:=aS Iv Tryz.func131 (by kernel_rfl) (a' afA ag) (fun y=>by kernel_rfl) fun a=>by kernel_rfl
noncomputable abbrev ah2:bh:=[(131,Vd)]
theorem ah9:a7 U (bg aj ah2):=bf ⟨z131,⟨⟩⟩
abbrev Qy:Shape:=⟨[(0,.ak (.et [.sl .pack] 0))],[],5⟩
abbrev Qf:Shape:=⟨[ae 1],[],5⟩
noncomputable def sb(a:Qy.J):Option Qf.J:=
(f131 ((a.1.1.1,()),())).bind fun b=>
 bif(!b.1.1) then
 some (((4:Int),()),())
else
 some (((0:Int),()),())
noncomputable def QX:aH:=aP aj Tryz.f130 Qy Qf [] sb
theorem agz:aF U 130 QX:=aS ah9 Tryz.func130 (by kernel_rfl) ag (fun y=>by kernel_rfl) fun a=>by kernel_rfl
noncomputable abbrev ah1:bh:=[(133,Vc)]
theorem ah8:a7 U (bg aj ah1):=bf ⟨aj5,⟨⟩⟩
abbrev Qx:Shape:=⟨[(0,.ak (.et [.sl .pack] 0))],[],11⟩
abbrev Qe:Shape:=⟨[ae 1],[],11⟩
noncomputable def sa(a:Qx.J):Option Qe.J:=
(f133 ((a.1.1.1,()),())).bind fun b=>
 bif(!b.1.2.1) then
 some (((5:Int),()),())
else
 some (((0:Int),()),())
noncomputable def QW:aH:=aP aj Tryz.f132 Qx Qe [] sa
theorem agy:aF U 132 QW:=aS ah8 Tryz.func132 (by kernel_rfl) ag (fun y=>by kernel_rfl) fun a=>by kernel_rfl
noncomputable abbrev aqH:bh:=[(50,JW),(109,Vn),(110,Vm)]
theorem J2:a7 U (bg aj aqH):=bf ⟨VT,z109,aka,⟨⟩⟩
abbrev OT:Shape:=⟨[aK 0 .pack,ae 3],[],52⟩
abbrev OA:List aO:=[(.norm,⟨[aK 0 .pack,ae 3,aK 12 .pack,ae 13,(14,.ak (.et [.str,.str,.sl .need,.sl .entry] 0)),cB 15 [ai,ai,cW .need,cW .entry],au 16,au 17,au 18,au 35],[],52⟩)]
noncomputable def FZ(y:OT.J):Option (ay OA):=
(aU y.1.1 y.1.2.1).bind fun a=>
(f50 (((a.name,a.a8,a.bm,a.bW,()),()),())).bind fun b=>
 bif(!b.1.1) then
 some ((y.1.1,y.1.2.1,y.1.1,y.1.2.1,(a.name,a.a8,a.bm,a.bW,()),(a.name,a.a8,a.bm,a.bW,()),b.1.1,(!b.1.1),true,true,()),())
else
 bif(decide (y.1.2.1>(0:Int))) then
(aU y.1.1 (IntKind.i64.wrap (y.1.2.1-(1:Int)))).bind fun c=>
(aU y.1.1 y.1.2.1).bind fun d=>
 some ((y.1.1,y.1.2.1,y.1.1,y.1.2.1,(a.name,a.a8,a.bm,a.bW,()),(a.name,a.a8,a.bm,a.bW,()),b.1.1,(!b.1.1),false,(!(Op.bytesLess c.name d.name)),()),())
else
 some ((y.1.1,y.1.2.1,y.1.1,y.1.2.1,(a.name,a.a8,a.bm,a.bW,()),(a.name,a.a8,a.bm,a.bW,()),b.1.1,(!b.1.1),false,false,()),())
theorem aeX:aW U (an (c8 (an (codeOf Tryz.f60) 1 26)) 52 840) (a_ OT OA FZ):=cS J2 (by kernel_rfl) ag fun y=>by kernel_rfl
abbrev zM:Shape:=⟨[aK 0 .pack,ae 3],[],52⟩
abbrev Gq:List aO:=[(.ret,⟨[ae 2],[],52⟩),(.exit 0,⟨[aK 0 .pack],[],52⟩)]
noncomputable def Ae(y:zM.J):bQ zM Gq:=
 bif(decide (y.1.2.1<(y.1.1.length:Int))) then
(FZ ((y.1.1,y.1.2.1,()),())).bind fun a=>
 bif a.1.2.2.2.2.2.2.2.2.2.1 then
 some (.inr (.inl (((1:Int),()),())))
else
 some (.inl ((a.1.1,(IntKind.i64.wrap (a.1.2.1+(1:Int))),()),()))
else
 some (.inr (.inr ((y.1.1,()),())))
noncomputable def GN:zM.J->Option (ay Gq):=bx Ae
theorem ahb:aW U (an (codeOf Tryz.f60) 1 26) (a_ zM Gq GN):=bR J2 (by kernel_rfl) (a' aeX ag) fun y=>by kernel_rfl
abbrev i60:Shape:=⟨[aK 0 .pack],[],52⟩
abbrev Wk:Shape:=⟨[ae 2],[],52⟩
noncomputable def f60(a:i60.J):Option Wk.J:=
(GN ((a.1.1,(0:Int),()),())).bind fun b=>
(match b with
|.inl c=>
 some ((c.1.1,()),())
|.inr d=>
(f109 ((d.1.1,()),())).bind fun e=>
 bif(decide ((d.1.1.length:Int)>(5:Int))) then
 some (((6:Int),()),())
else
(f110 ((d.1.1,()),())).bind fun f=>
 bif(!f.1.1) then
 some (((4:Int),()),())
else
 bif(!e.1.2.1) then
 some (((5:Int),()),())
else
 some (((0:Int),()),()))
noncomputable def XD:aH:=aP aj Tryz.f60 i60 Wk [] f60
theorem ans:aF U 60 XD:=aS J2 Tryz.func60 (by kernel_rfl) (a' ahb ag) (fun y=>by kernel_rfl) fun a=>by kernel_rfl
noncomputable abbrev aqV:bh:=[(60,XD)]
theorem arf:a7 U (bg aj aqV):=bf ⟨ans,⟨⟩⟩
abbrev i30:Shape:=⟨[cB 0 [cW .pack]],[],7⟩
abbrev Wx:Shape:=⟨[au 2],[],7⟩
noncomputable def f30(a:i30.J):Option Wx.J:=
(f60 ((a.1.1.1,()),())).bind fun b=>
 some (((b.1.1==(0:Int)),()),())
noncomputable def B7:aH:=aP aj Tryz.f30 i30 Wx [] f30
theorem IE:aF U 30 B7:=aS arf Tryz.func30 (by kernel_rfl) ag (fun y=>by kernel_rfl) fun a=>by kernel_rfl
noncomputable abbrev tq:bh:=[(128,QZ),(129,QY),(130,QX),(132,QW)]
theorem XV:a7 U (bg aj tq):=bf ⟨agB,agA,agz,agy,⟨⟩⟩
abbrev Rc:Shape:=⟨[aM 1 1 0],[aL 1 [cW .pack]],24⟩
abbrev oz:List aO:=[(.ret,⟨[ae 2],[],24⟩)]
noncomputable def pY(c:Int):ay oz:=((c,()),())
noncomputable def Ha(y:Rc.J):Option (ay oz):=
 pW y.2.1.1 pY [fun ps=>se (((ps,()),()),()),fun ps=>sd (((ps,()),()),()),fun ps=>sb (((ps,()),()),()),fun ps=>sa (((ps,()),()),())]
theorem aii:∀ps k i,exec (gE (bg aj tq) []) (an (c8 (an (codeOf Tryz.f81) 1 58)) 116 3737) 3737 (((fZ 24).st (gS 24 ps k i)).set 5 (bX (.clo 128 [(1,0)]))) (pZ 24 oz)=((fun ps=>se (((ps,()),()),())) ps).bind fun r=>bif(r.1.1 !=0) then some (.inr (pY r.1.1)) else some (.inl (gS 24 ps k i)):=fun ps k i=>by kernel_rfl
theorem aih:∀ps k i,exec (gE (bg aj tq) []) (an (c8 (an (codeOf Tryz.f81) 1 58)) 116 3737) 3737 (((fZ 24).st (gS 24 ps k i)).set 5 (bX (.clo 129 [(1,0)]))) (pZ 24 oz)=((fun ps=>sd (((ps,()),()),())) ps).bind fun r=>bif(r.1.1 !=0) then some (.inr (pY r.1.1)) else some (.inl (gS 24 ps k i)):=fun ps k i=>by kernel_rfl
theorem aig:∀ps k i,exec (gE (bg aj tq) []) (an (c8 (an (codeOf Tryz.f81) 1 58)) 116 3737) 3737 (((fZ 24).st (gS 24 ps k i)).set 5 (bX (.clo 130 [(1,0)]))) (pZ 24 oz)=((fun ps=>sb (((ps,()),()),())) ps).bind fun r=>bif(r.1.1 !=0) then some (.inr (pY r.1.1)) else some (.inl (gS 24 ps k i)):=fun ps k i=>by kernel_rfl
theorem aif:∀ps k i,exec (gE (bg aj tq) []) (an (c8 (an (codeOf Tryz.f81) 1 58)) 116 3737) 3737 (((fZ 24).st (gS 24 ps k i)).set 5 (bX (.clo 132 [(1,0)]))) (pZ 24 oz)=((fun ps=>sa (((ps,()),()),())) ps).bind fun r=>bif(r.1.1 !=0) then some (.inr (pY r.1.1)) else some (.inl (gS 24 ps k i)):=fun ps k i=>by kernel_rfl
theorem aiz:aW U (an (codeOf Tryz.f81) 1 3) (a_ Rc oz Ha):=
 _K (C:=gE (bg aj tq) []) (os:=oz) (nt:=24) (T:=165) (e:=164) (m0:=((opsOf (an (codeOf Tryz.f81) 1 6)).getD 0 default)) (m1:=((opsOf (an (codeOf Tryz.f81) 1 6)).getD 1 default)) (m2:=((opsOf (an (codeOf Tryz.f81) 1 6)).getD 2 default)) (m3:=((opsOf (an (codeOf Tryz.f81) 1 6)).getD 3 default)) (m4:=((opsOf (an (codeOf Tryz.f81) 1 6)).getD 4 default)) (m5:=((opsOf (an (codeOf Tryz.f81) 1 6)).getD 5 default)) (n0:=((opsOf (an (codeOf Tryz.f81) 1 28)).getD 0 default)) (n1:=((opsOf (an (codeOf Tryz.f81) 1 28)).getD 1 default)) (n2:=((opsOf (an (codeOf Tryz.f81) 1 28)).getD 2 default)) (q0:=((opsOf (an (c8 (an (codeOf Tryz.f81) 1 58)) 116 232)).getD 0 default)) (r0:=((opsOf (an (c8 (an (codeOf Tryz.f81) 1 58)) 116 3736)).getD 0 default)) (r1:=((opsOf (an (c8 (an (codeOf Tryz.f81) 1 58)) 116 3736)).getD 1 default)) (r2:=((opsOf (an (c8 (an (codeOf Tryz.f81) 1 58)) 116 3736)).getD 2 default))
  (i1:=sk (an (codeOf Tryz.f81) 1 6)) (i2:=sk (an (codeOf Tryz.f81) 1 28)) (i3:=sk (an (c8 (an (codeOf Tryz.f81) 1 58)) 116 232)) (i4:=sk (an (c8 (an (codeOf Tryz.f81) 1 58)) 116 3736)) (BB:=(an (c8 (an (codeOf Tryz.f81) 1 58)) 116 3737)) (r8:=(an (c8 (an (codeOf Tryz.f81) 1 58)) 116 935)) (E:=(an (codeOf Tryz.f81) 1 15)) (p3:=232) (pB:=3737) (p8:=935) (pE:=15) (g0:=128) (g1:=129) (g2:=130) (g3:=132) (c0:=fun ps=>se (((ps,()),()),())) (c1:=fun ps=>sd (((ps,()),()),())) (c2:=fun ps=>sb (((ps,()),()),())) (c3:=fun ps=>sa (((ps,()),()),())) (mk:=pY) XV
  {qn:=(by kernel_rfl),IH:=(by kernel_rfl),bf:=⟨(by kernel_rfl),(by kernel_rfl),(by kernel_rfl),(by kernel_rfl),(by kernel_rfl),(by kernel_rfl),(by kernel_rfl),(by kernel_rfl),(by kernel_rfl),(by kernel_rfl),(by kernel_rfl),(by kernel_rfl)⟩,Ke:=⟨(by kernel_rfl),(by kernel_rfl)⟩,on:=⟨(by kernel_rfl),(by kernel_rfl),(by kernel_rfl)⟩,Bv:=⟨(by kernel_rfl),(by kernel_rfl),(by kernel_rfl)⟩,dst:=⟨(by kernel_rfl),(by kernel_rfl),(by kernel_rfl),(by kernel_rfl),(by kernel_rfl),(by kernel_rfl),(by kernel_rfl),(by kernel_rfl)⟩,HC:=(by decide),IN:=(by kernel_rfl),WH:=(by kernel_rfl),WG:=(by kernel_rfl),wr:=(by kernel_rfl),anS:=(by kernel_rfl),
   kg:=⟨(fun f hf=>by cases hf),kO (by kernel_rfl) ag,kO (by kernel_rfl) ag,kO (by kernel_rfl) ag⟩,hos:=(fun _ _=>rfl),ax:=(fun ps=>by kernel_rfl),vh:=(fun ps k i=>by kernel_rfl),hlt:=(fun ps k i=>by kernel_rfl),
   hB:=(fun gc h=>by
    simp only[List.mem_cons,List.not_mem_nil,or_false] at h;rcases h with rfl|rfl|rfl|rfl
    ·exact aii
    ·exact aih
    ·exact aig
    ·exact aif),
   h8:=(fun ps k i=>by kernel_rfl),hE:=(fun ps k i=>by kernel_rfl)} (fun ps=>rfl) (by kernel_rfl)
abbrev i81:Shape:=⟨[aK 0 .pack],[],24⟩
abbrev Wc:Shape:=⟨[ae 2],[],24⟩
noncomputable def f81(a:i81.J):Option Wc.J:=
(Ha (((),()),(a.1.1,()),())).bind fun b=>
 some ((b.1.1,()),())
noncomputable def Xx:aH:=aP aj Tryz.f81 i81 Wc [] f81
theorem ann:aF U 81 Xx:=aS XV Tryz.func81 (by kernel_rfl) (a' aiz ag) (fun y=>by kernel_rfl) fun a=>by kernel_rfl
noncomputable abbrev aqP:bh:=[(81,Xx)]
theorem arc:a7 U (bg aj aqP):=bf ⟨ann,⟨⟩⟩
abbrev i43:Shape:=⟨[cB 0 [cW .pack]],[],7⟩
abbrev Wt:Shape:=⟨[au 2],[],7⟩
noncomputable def f43(a:i43.J):Option Wt.J:=
(f81 ((a.1.1.1,()),())).bind fun b=>
 some (((b.1.1==(0:Int)),()),())
noncomputable def B6:aH:=aP aj Tryz.f43 i43 Wt [] f43
theorem ID:aF U 43 B6:=aS arc Tryz.func43 (by kernel_rfl) ag (fun y=>by kernel_rfl) fun a=>by kernel_rfl
theorem acJ(a)(hs:cZ a.1.1.length):(∃(k:Nat) (q:ba),f160 a=some (((k:Int),()),())/\a.1.1[k]? =some q/\a.1.1.find? (fun p=>p.name==a.1.2.1)=some q)\/
  (f160 a=some ((((-1):Int),()),())/\a.1.1.find? (fun p=>p.name==a.1.2.1)=none):=by
 obtain⟨⟨ps,name,u⟩,cn⟩:=a;have hs:ps.length<=2097152:=hs;have key:∀(r:List ba) (k:Nat),ps.drop k=r->k<=ps.length->(∃(j:Nat) (q:ba),rK ((ps,(name,((k:Int),()))),())=some (.inl (((j:Int),()),()))/\ps[j]? =some q/\r.find? (fun p=>p.name==name)=some q)\/
   (rK ((ps,(name,((k:Int),()))),())=some (.inr ((),()))/\r.find? (fun p=>p.name==name)=none):=by
  intro r;induction r with
  |nil=>
   intro k hr hk;have:=drop_nil hr;have d1:decide ((k:Int)<(ps.length:Int))=false:=by simp only[decide_eq_false_iff_not];omega
   refine .inr ⟨cm ?_,rfl⟩;simp only[zb,d1,cond_false]
  |cons q r ih=>
   intro k hr hk;obtain⟨c1,c2,c3⟩:=drop_cons hr;have hw:aq k:=by unfold aq;omega
   have step:zb ((ps,(name,((k:Int),()))),())=some (bif q.name==name then .inr (.inl (((k:Int),()),())) else .inl ((ps,(name,(((k+1:Nat):Int),()))),())):=by
    simp only[zb,cp c3,cond_true,b6,c1,Option.bind_some,b0 hw];cases (q.name==name)<;>rfl
   cases ar:(q.name==name) with
   |true=>
    rw[ar,cond_true] at step;exact .inl ⟨k,q,cm step,c1,by simp[List.find?_cons,ar]⟩
   |false=>
    rw[ar,cond_false] at step;rcases ih (k+1) c2 c3 with⟨j,fl,h1,h2,h3⟩|⟨h1,h2⟩
    ·exact .inl ⟨j,fl,(dD step).trans h1,h2,by simp[List.find?_cons,ar];exact h3⟩
    ·exact .inr ⟨(dD step).trans h1,by simp only[List.find?_cons,ar];exact h2⟩
 rcases key ps 0 rfl (Nat.zero_le _) with⟨j,q,h1,h2,h3⟩|⟨h1,h2⟩
 ·have h1:rK ((ps,(name,((0:Int),()))),())=some (.inl (((j:Int),()),())):=h1;exact .inl ⟨j,q,by simp only[f160,h1,Option.bind_some],h2,h3⟩
 ·have h1:rK ((ps,(name,((0:Int),()))),())=some (.inr ((),())):=h1;exact .inr ⟨by simp only[f160,h1,Option.bind_some],h2⟩
abbrev tC(ps:List ba):Prop:=∀p,p∈ps->p.a8.length<=2097151/\∀n,n∈p.bm->n.a8.length<=2097151
def ix(ps:List ba)(n:bB):Bool:=match ps.find? (fun q=>q.name==n.name) with
 |some q=>sz n q.a8
 |none=>false
def jq(ps:List ba)(n:bB):Bool:=ps.any fun q=>k1 n q.name q.a8
theorem aaU(a)(hb:kk a.1.1)(hv:tC a.1.1):f110 a=some ((a.1.1.all (fun p=>p.bm.all (ix a.1.1)),()),()):=by
 obtain⟨⟨ps,u⟩,cn⟩:=a;have hl:ps.length<=2097152:=hb.1;have inner:∀(i:Nat) (p:ba),ps[i]? =some p->Ds ((ps,((i:Int),((0:Int),()))),())=some (bif p.bm.all (ix ps) then .inr ((ps,((i:Int),())),()) else .inl ((false,()),())):=by
  intro i p hp;have s8:=List.mem_of_getElem? hp;have BO:p.bm.length<=2097152:=(hb.2 p s8).2.2.1.1;have:=gY xI p.bm (fun k=>((ps,((i:Int),((k:Int),()))),())) (fun _ n=>ix ps n) (.inl ((false,()),())) (.inr ((ps,((i:Int),())),())) (fun k n hn=>?_) ?_
  ·have:=this;rw[gC] at this;exact this
  ·have hk:=dd hn;have hw:aq k:=by unfold aq;omega
   have ks:=List.mem_of_getElem? hn;have h8:=acJ ((ps,(n.name,())),()) hl;simp only[xI,b6,hp,Option.bind_some,cp hk,cond_true,hn];rcases h8 with⟨j,q,h1,h2,h3⟩|⟨h1,h2⟩
   ·have h2:ps[j]? =some q:=h2;have h3:ps.find? (fun p=>p.name==n.name)=some q:=h3
    have ar:=hv q (List.mem_of_getElem? h2);have hf:=acL (((n.name,(n.kind,(n.a8,()))),(n.name,(q.a8,()))),()) ((hv p s8).2 n ks) ar.1 rfl;have hj:decide ((j:Int)<0)=false:=by simp only[decide_eq_false_iff_not];omega
    simp only[h1,Option.bind_some,w0,hj,cond_false,b6,h2,hf,ix,h3,b0 hw];cases sz n q.a8<;>rfl
   ·have h2:ps.find? (fun p=>p.name==n.name)=none:=h2
    have hj:decide ((-1:Int)<0)=true:=rfl;simp only[h1,Option.bind_some,w0,hj,cond_true,ix,h2,cond_false]
  ·simp only[xI,b6,hp,Option.bind_some,dM,cond_false]
 have key:FO ((ps,((0:Int),())),())=some (bif allI (fun _ p=>p.bm.all (ix ps)) 0 ps then .inr ((),()) else .inl ((false,()),())):=by
  refine gY zj ps (fun i=>((ps,((i:Int),())),())) _ _ _ (fun i x hx=>?_) ?_
  ·have hi:=dd hx;have hw:aq i:=by unfold aq;omega
   simp only[zj,cp hi,cond_true,inner i x hx,Option.bind_some];cases x.bm.all (ix ps)
   ·rfl
   ·simp only[cond_true,b0 hw]
  ·simp only[zj,dM,cond_false]
 rw[gC] at key;simp only[f110,key,Option.bind_some];cases List.all ps (fun p=>p.bm.all (ix ps))<;>rfl
theorem Zr(a)(hb:kk a.1.1)(hv:tC a.1.1):f131 a=some ((a.1.1.all (fun p=>p.bm.all (jq a.1.1)),()),()):=by
 obtain⟨⟨ps,u⟩,cn⟩:=a;have hl:ps.length<=2097152:=hb.1;have hcon:∀n:bB,cZ n.name.length->n.a8.length<=2097151->Aj ((ps,(((n.name,(n.kind,(n.a8,()))),()),())),())=some ((jq ps n,()),()):=by
  intro n hn1 ao9;have key:∀(r:List ba) (k:Nat),ps.drop k=r->k<=ps.length->∃z:Int,(rp ((ps,(((n.name,(n.kind,(n.a8,()))),()),((ps.length:Int),((k:Int),())))),())).bind (fun aiw=>(match aiw with
    |.inl aiv=>some ((aiv.1.1,()),())
    |.inr asI=>some ((((-1):Int),()),()):Option Gz.J))=some ((z,()),())/\decide (z>=0)=r.any (fun q=>k1 n q.name q.a8):=by
   intro r;induction r with
   |nil=>
    intro k hr hk;have:=drop_nil hr;have d1:decide ((k:Int)<(ps.length:Int))=false:=by simp only[decide_eq_false_iff_not];omega
    have:rp ((ps,(((n.name,(n.kind,(n.a8,()))),()),((ps.length:Int),((k:Int),())))),())=some (.inr ((),())):=by
     refine cm ?_
     simp only[xD,d1,cond_false]
    exact⟨-1,by rw[this];rfl,rfl⟩
   |cons q r ih=>
    intro k hr hk;obtain⟨c1,c2,c3⟩:=drop_cons hr;have hw:aq k:=by unfold aq;omega
    have ar:=hv q (List.mem_of_getElem? c1);have hf:=_0 (((n.name,(n.kind,(n.a8,()))),(q.name,(q.a8,()))),()) hn1 ao9 ar.1;have step:xD ((ps,(((n.name,(n.kind,(n.a8,()))),()),((ps.length:Int),((k:Int),())))),())=some (bif k1 n q.name q.a8 then .inr (.inl (((k:Int),()),())) else .inl ((ps,(((n.name,(n.kind,(n.a8,()))),()),((ps.length:Int),(((k+1:Nat):Int),())))),())):=by
     simp only[xD,cp c3,cond_true,b6,c1,Option.bind_some,GW,hf,b0 hw];cases k1 n q.name q.a8<;>rfl
    rw[List.any_cons];cases W6:k1 n q.name q.a8 with
    |true=>
     rw[W6,cond_true] at step;exact⟨k,by rw[show rp _=_ from cm step];rfl,by simp⟩
    |false=>
     rw[W6,cond_false] at step;obtain⟨z,h1,h2⟩:=ih (k+1) c2 c3;exact⟨z,by rw[show rp _=_ from dD step];exact h1,by rw[h2];rfl⟩
  obtain⟨z,h1,h2⟩:=key ps 0 rfl (Nat.zero_le _);have h3:Ai ((ps,(((n.name,(n.kind,(n.a8,()))),()),())),())=some ((z,()),()):=by
   simp only[Ai];exact h1
  simp only[Aj,h3,Option.bind_some,h2,jq]
 have inner:∀(i:Nat) (p:ba),ps[i]? =some p->Dp ((ps,(ps,((ps.length:Int),((i:Int),(p.bm,((p.bm.length:Int),((0:Int),()))))))),())=some (bif p.bm.all (jq ps) then .inr ((ps,(ps,((ps.length:Int),((i:Int),())))),()) else .inl ((false,()),())):=by
  intro i p hp;have s8:=List.mem_of_getElem? hp;have BO:p.bm.length<=2097152:=(hb.2 p s8).2.2.1.1;have:=gY xG p.bm (fun k=>((ps,(ps,((ps.length:Int),((i:Int),(p.bm,((p.bm.length:Int),((k:Int),()))))))),())) (fun _ n=>jq ps n) (.inl ((false,()),())) (.inr ((ps,(ps,((ps.length:Int),((i:Int),())))),())) (fun k n hn=>?_) ?_
  ·have:=this;rw[gC] at this;exact this
  ·have hk:=dd hn;have hw:aq k:=by unfold aq;omega
   have ks:=List.mem_of_getElem? hn;have hc:=hcon n ((hb.2 p s8).2.2.1.2 n ks).1 ((hv p s8).2 n ks);simp only[xG,cp hk,cond_true,b6,hn,Option.bind_some,hc,b0 hw];cases jq ps n<;>rfl
  ·simp only[xG,dM,cond_false]
 have key:FM ((ps,(ps,((ps.length:Int),((0:Int),())))),())=some (bif allI (fun _ p=>p.bm.all (jq ps)) 0 ps then .inr ((),()) else .inl ((false,()),())):=by
  refine gY zh ps (fun i=>((ps,(ps,((ps.length:Int),((i:Int),())))),())) _ _ _ (fun i x hx=>?_) ?_
  ·have hi:=dd hx;have hw:aq i:=by unfold aq;omega
   simp only[zh,cp hi,cond_true,b6,hx,inner i x hx,Option.bind_some];cases x.bm.all (jq ps)
   ·rfl
   ·simp only[cond_true,b0 hw]
  ·simp only[zh,dM,cond_false]
 rw[gC] at key;simp only[f131,key,Option.bind_some];cases List.all ps (fun p=>p.bm.all (jq ps))<;>rfl
theorem acB:∀ps:List ba,(∀i y,ps[i+1]? =some y->nw ps i y=true)->ps.Pairwise fun p q=>Op.bytesLess p.name q.name=true:=by
 intro ps;induction ps with
 |nil=>intro _;exact List.Pairwise.nil
 |cons x r ih=>
  intro h;have hr:=ih (fun i y hy=>by
   have:=h (i+1) y (by simpa using hy)
   unfold nw at this ⊢;simpa using this)
  refine List.pairwise_cons.2 ⟨fun y hy=>?_,hr⟩
  cases r with
  |nil=>cases hy
  |cons z r=>
   have hz:Op.bytesLess x.name z.name=true:=by
    have:=h 0 z rfl;unfold nw at this;simpa using this
   rcases List.mem_cons.1 hy with rfl|hy
   ·exact hz
   ·exact ud _ _ _ hz ((List.pairwise_cons.1 hr).1 y hy)
theorem ago{ps:List ba}(h:lc ps=true):ps.Pairwise fun p q=>Op.bytesLess p.name q.name=true:=by
 refine acB ps (fun i y hy=>?_)
 have:=yh ps.tail 0 h i y (by rw[List.getElem?_tail];exact hy)
 rwa[Nat.zero_add] at this
theorem _s:∀(ps:List ba) (n:bB),(∀p,p∈ps->dY p.a8=true)->dp n=true->ps.Pairwise (fun p q=>Op.bytesLess p.name q.name=true)->jq ps n=ix ps n:=by
 intro ps n;induction ps with
 |nil=>intro _ _ _;rfl
 |cons q r ih=>
  intro hv hn hp;have BN:=List.pairwise_cons.1 hp;have ih:=ih (fun p h=>hv p (List.mem_cons_of_mem _ h)) hn BN.2
  unfold jq ix at ih ⊢;rw[List.any_cons,List.find?_cons];cases ar:(q.name==n.name) with
  |true=>
   have hno:r.any (fun q=>k1 n q.name q.a8)=false:=by
    rw[List.any_eq_false];intro p ao1;have h1:=BN.1 p ao1;rw[eq_of_beq ar] at h1;have:(p.name==n.name)=false:=by
     cases h:(p.name==n.name) with
     |false=>rfl
     |true=>rw[eq_of_beq h,Ao] at h1;cases h1
    unfold k1;rw[this];simp
   rw[hno];unfold k1;rw[hv q List.mem_cons_self,hn,ar];simp
  |false=>
   have:k1 n q.name q.a8=false:=by unfold k1;rw[ar];simp
   rw[this,Bool.false_or];exact ih
def jK(ps:List ba):Bool:=ps.all cH&&lc ps&&decide (ps.length<=5)&&ps.all (fun p=>p.bm.all (ix ps))&&(gF [] ps).isSome
def AL(ps:List ba):Int:=bif ps.all cH&&lc ps then(bif decide (ps.length<=5) then(bif ps.all (fun p=>p.bm.all (ix ps)) then(bif(gF [] ps).isSome then 0 else 5) else 4) else 6) else 1
theorem _h(ps:List ba):jK ps=(AL ps==0):=by
 unfold jK AL;cases ps.all cH<;>cases lc ps<;>cases decide (ps.length<=5)<;>cases ps.all (fun p=>p.bm.all (ix ps))<;>cases (gF [] ps).isSome<;>rfl
theorem aaP{aB:Type}(ok:Nat->aB->Bool):∀(xs:List aB) (j:Nat),allI ok (j+1) xs=allI (fun i=>ok (i+1)) j xs:=by
 intro xs;induction xs with
 |nil=>intro j;rfl
 |cons x r ih=>intro j;simp only[allI,ih]
def Bw(ps:List ba)(i:Nat)(x:ba):Bool:=cH x&&(i==0||nw ps (i-1) x)
theorem afN(ps:List ba):allI (Bw ps) 0 ps=(ps.all cH&&lc ps):=by
 unfold Bw;rw[EG,gC];congr 1
 unfold lc;cases ps with
 |nil=>rfl
 |cons x r=>
  simp only[allI,beq_self_eq_true,Bool.true_or,Bool.true_and,List.tail_cons];rw[aaP];refine Me r 0 (fun i y _ _=>?_)
  have:(i+1==0)=false:=rfl;rw[this,Bool.false_or,Nat.add_sub_cancel]
theorem Ns(a)(hb:kk a.1.1.1)(hv:tC a.1.1.1):f30 a=some ((jK a.1.1.1,()),()):=by
 obtain⟨⟨⟨ps,u⟩,cn⟩,nI⟩:=a;have hl:ps.length<=2097152:=hb.1;have key:GN ((ps,((0:Int),())),())=some (bif allI (Bw ps) 0 ps then .inr ((ps,()),()) else .inl (((1:Int),()),())):=by
  refine gY Ae ps (fun i=>((ps,((i:Int),())),())) _ _ _ (fun i x hx=>?_) ?_
  ·have hi:=dd hx;have hw:aq i:=by unfold aq;omega
   have Jy:=hb.2 x (List.mem_of_getElem? hx);simp only[Ae,cp hi,cond_true,FZ,b6,hx,Option.bind_some];rw[DL _ Jy];simp only[Option.bind_some,Bw,H3];cases cH x with
   |false=>rfl
   |true=>
    simp only[Bool.not_true,cond_false,Bool.true_and,nw];cases i with
    |zero=>simp only[beq_self_eq_true,Bool.not_true,cond_false,Option.bind_some,Bool.true_or,cond_true,b0 hw]
    |succ i=>
     have h0:(i+1==0)=false:=rfl;have j1:i<ps.length:=by omega
     obtain⟨q,ar⟩:∃q,ps[i]? =some q:=⟨ps[i],List.getElem?_eq_getElem j1⟩;simp only[h0,Bool.not_false,cond_true,xg (i:=i) (by unfold aq;omega),b6,ar,hx,Option.bind_some,Bool.false_or,Nat.add_sub_cancel]
     cases Op.bytesLess q.name x.name with
     |false=>rfl
     |true=>simp only[Bool.not_true,cond_false,cond_true,b0 hw]
  ·simp only[Ae,dM,cond_false]
 rw[afN] at key;have bk:decide ((ps.length:Int)>5)=!decide (ps.length<=5):=by by_cases h:ps.length<=5<;>simp only[h,decide_true,decide_false,Bool.not_true,Bool.not_false,decide_eq_true_eq,decide_eq_false_iff_not]<;>omega
 simp only[f30,f60,key,Option.bind_some,jK];cases dX:(ps.all cH&&lc ps) with
 |false=>rfl
 |true=>
  have hk:ps.all cH=true:=by simp only[Bool.and_eq_true] at dX;exact dX.1
  obtain⟨out,ap⟩:=acI ((ps,()),()) hb hk;have hn:=aaU ((ps,()),()) hb hv;simp only[cond_true,Option.bind_some,ap,bk,Bool.true_and];cases decide (ps.length<=5) with
  |false=>rfl
  |true=>
   simp only[Bool.not_true,cond_false,hn,Option.bind_some,Bool.true_and];cases ps.all (fun p=>p.bm.all (ix ps))<;>cases (gF [] ps).isSome<;>rfl
theorem _R(a)(hb:kk a.1.1)(hv:tC a.1.1):f81 a=some ((AL a.1.1,()),()):=by
 obtain⟨⟨ps,u⟩,cn⟩:=a;have hl:ps.length<=2097152:=hb.1;have e1:=aa5 ((ps,((),())),()) hb;have e2:=Y9 ((ps,()),()) hl;have bz:=Zr ((ps,()),()) hb hv;have bk:decide ((ps.length:Int)>5)=!decide (ps.length<=5):=by by_cases h:ps.length<=5<;>simp only[h,decide_true,decide_false,Bool.not_true,Bool.not_false,decide_eq_true_eq,decide_eq_false_iff_not]<;>omega
 have c0:se (((ps,()),()),())=some (((bif ps.all cH&&lc ps then(0:Int) else 1),()),()):=by
  simp only[se,DC,e1,Bool.not_not,Option.bind_some];cases ps.all cH with
  |false=>rfl
  |true=>simp only[cond_true,e2,Option.bind_some,Bool.true_and];cases lc ps<;>rfl
 have c1:sd (((ps,()),()),())=some (((bif decide (ps.length<=5) then(0:Int) else 6),()),()):=by
  simp only[sd,bk];cases decide (ps.length<=5)<;>rfl
 have c2:sb (((ps,()),()),())=some (((bif ps.all (fun p=>p.bm.all (jq ps)) then(0:Int) else 4),()),()):=by
  simp only[sb,bz,Option.bind_some];cases ps.all (fun p=>p.bm.all (jq ps))<;>rfl
 have c3:ps.all cH=true->sa (((ps,()),()),())=some (((bif(gF [] ps).isSome then(0:Int) else 5),()),()):=by
  intro hk;obtain⟨out,ap⟩:=Z5 ((ps,()),()) hb hk;simp only[sa,ap,Option.bind_some];cases (gF [] ps).isSome<;>rfl
 have z:∀n:Int,((n:Int) !=0)=!(n==0):=fun n=>rfl
 simp only[f81,Ha,pW,c0,c1,c2,pY,Option.bind_some,AL];cases dX:(ps.all cH&&lc ps) with
 |false=>rfl
 |true=>
  simp only[Bool.and_eq_true] at dX;have ahD:ps.all (fun p=>p.bm.all (jq ps))=ps.all (fun p=>p.bm.all (ix ps)):=by
   rw[Bool.eq_iff_iff];simp only[List.all_eq_true];have hvs:∀p,p∈ps->dY p.a8=true:=fun p hp=>by
    have:=List.all_eq_true.1 dX.1 p hp;unfold cH at this;simp only[Bool.and_eq_true] at this;exact this.1.1.2
   have hns:∀p,p∈ps->∀n,n∈p.bm->jq ps n=ix ps n:=fun p hp n hn=>by
    have:=List.all_eq_true.1 dX.1 p hp;unfold cH pN at this;simp only[Bool.and_eq_true] at this;exact _s ps n hvs (List.all_eq_true.1 this.1.2.1.1 n hn) (ago dX.2)
   constructor
   ·intro h p hp n hn;rw[<-hns p hp n hn];exact h p hp n hn
   ·intro h p hp n hn;rw[hns p hp n hn];exact h p hp n hn
  rw[ahD,c3 dX.1];cases decide (ps.length<=5)<;>cases ps.all (fun p=>p.bm.all (ix ps))<;>cases (gF [] ps).isSome<;>rfl
theorem Mh(a)(hb:kk a.1.1.1)(hv:tC a.1.1.1):f43 a=some ((jK a.1.1.1,()),()):=by
 obtain⟨⟨⟨ps,u⟩,cn⟩,nI⟩:=a;have e:=_R ((ps,()),()) hb hv;simp only[f43,e,Option.bind_some,_h]
abbrev i217:Shape:=⟨[(0,.ak (.d (.int .u32))),ae 1],[],17⟩
abbrev Sq:Shape:=⟨[(4,.ak (.d (.int .u32)))],[],17⟩
noncomputable def f217(a:i217.J):Option Sq.J:=
(k6 .u32 a.1.1 (eu .u64 (IntKind.u64.wrap a.1.2.1) (31:Int))).bind fun b=>
(e6 .u32 a.1.1 (IntKind.u64.wrap ((32:Int)-(eu .u64 (IntKind.u64.wrap a.1.2.1) (31:Int))))).bind fun c=>
 some (((hH .u32 b c),()),())
noncomputable def Uq:aH:=aP aj Tryz.f217 i217 Sq [] f217
theorem ajy:aF U 217 Uq:=aS g0 Tryz.func217 (by kernel_rfl) ag (fun y=>by kernel_rfl) fun a=>by kernel_rfl
noncomputable abbrev al3:bh:=[(217,Uq)]
theorem amZ:a7 U (bg aj al3):=bf ⟨ajy,⟨⟩⟩
abbrev i171:Shape:=⟨[(0,.ak (.d (.int .u32))),ae 1],[],9⟩
abbrev SU:Shape:=⟨[(4,.ak (.d (.int .u32)))],[],9⟩
noncomputable def f171(a:i171.J):Option SU.J:=
(f217 ((a.1.1,(IntKind.i64.wrap (0-a.1.2.1)),()),())).bind fun b=>
 some ((b.1.1,()),())
noncomputable def UO:aH:=aP aj Tryz.f171 i171 SU [] f171
theorem z171:aF U 171 UO:=aS amZ Tryz.func171 (by kernel_rfl) ag (fun y=>by kernel_rfl) fun a=>by kernel_rfl
abbrev i278:Shape:=⟨[(0,.ak (.d (.int .u32))),ae 1],[],13⟩
abbrev R9:Shape:=⟨[(4,.ak (.d (.int .u32)))],[],13⟩
noncomputable def f278(a:i278.J):Option R9.J:=
(e6 .u32 a.1.1 a.1.2.1).bind fun b=>
(k6 .u32 a.1.1 (IntKind.i64.wrap ((32:Int)-a.1.2.1))).bind fun c=>
 some (((hH .u32 b c),()),())
noncomputable def H_:aH:=aP aj Tryz.f278 i278 R9 [] f278
theorem RI:aF U 278 H_:=aS g0 Tryz.func278 (by kernel_rfl) ag (fun y=>by kernel_rfl) fun a=>by kernel_rfl
noncomputable abbrev aly:bh:=[(278,H_)]
theorem Io:a7 U (bg aj aly):=bf ⟨RI,⟨⟩⟩
abbrev yo:Shape:=⟨[aK 0 .u8,bc 3 3000192,ae 4],[bb 3000192 .u32 3 0],100⟩
abbrev ES:List aO:=[(.exit 0,⟨[bc 3 3000192],[bb 3000192 .u32 3 0],100⟩)]
noncomputable def F0(y:yo.J):bQ yo ES:=
 bif(decide (y.1.2.2.1<(16:Int))) then
(aU y.1.1 (IntKind.i64.wrap ((4:Int)*y.1.2.2.1))).bind fun a=>
(k6 .u32 (IntKind.u32.wrap a) (24:Int)).bind fun b=>
(aU y.1.1 (IntKind.i64.wrap ((IntKind.i64.wrap ((4:Int)*y.1.2.2.1))+(1:Int)))).bind fun c=>
(k6 .u32 (IntKind.u32.wrap c) (16:Int)).bind fun d=>
(aU y.1.1 (IntKind.i64.wrap ((IntKind.i64.wrap ((4:Int)*y.1.2.2.1))+(2:Int)))).bind fun e=>
(k6 .u32 (IntKind.u32.wrap e) (8:Int)).bind fun f=>
(aU y.1.1 (IntKind.i64.wrap ((IntKind.i64.wrap ((4:Int)*y.1.2.2.1))+(3:Int)))).bind fun g=>
(cy 4 y.2.1 ([(hH .u32 (hH .u32 (hH .u32 b d) f) (IntKind.u32.wrap g))]:List Int)).bind fun h=>
 some (.inl ((y.1.1,(),(IntKind.i64.wrap (y.1.2.2.1+(1:Int))),()),h,()))
else
 some (.inr (((),()),y.2.1,()))
noncomputable def Fx:yo.J->Option (ay ES):=bx F0
theorem ae2:aW U (an (codeOf Tryz.f276) 1 58) (a_ yo ES Fx):=bR Io (by kernel_rfl) ag fun y=>by kernel_rfl
abbrev xR:Shape:=⟨[bc 3 3000192,ae 5],[bb 3000192 .u32 3 0],100⟩
abbrev DP:List aO:=[(.exit 2,⟨[bc 3 3000192],[bb 3000192 .u32 3 0],100⟩)]
noncomputable def Ew(y:xR.J):bQ xR DP:=
 bif(decide (y.1.2.1<(64:Int))) then
(a6 y.2.1.length (IntKind.i64.wrap (y.1.2.1-(15:Int)))).bind fun a=>
(y.2.1[a]?).bind fun b=>
(a6 y.2.1.length (IntKind.i64.wrap (y.1.2.1-(2:Int)))).bind fun c=>
(y.2.1[c]?).bind fun d=>
(f278 ((b,(7:Int),()),())).bind fun e=>
(f278 ((b,(18:Int),()),())).bind fun f=>
(e6 .u32 b (3:Int)).bind fun g=>
(f278 ((d,(17:Int),()),())).bind fun h=>
(f278 ((d,(19:Int),()),())).bind fun i=>
(e6 .u32 d (10:Int)).bind fun j=>
(a6 y.2.1.length (IntKind.i64.wrap (y.1.2.1-(16:Int)))).bind fun k=>
(y.2.1[k]?).bind fun l=>
(a6 y.2.1.length (IntKind.i64.wrap (y.1.2.1-(7:Int)))).bind fun m=>
(y.2.1[m]?).bind fun n=>
(cy 4 y.2.1 ([(IntKind.u32.wrap ((IntKind.u32.wrap ((IntKind.u32.wrap (l+(dh .u32 (dh .u32 e.1.1 f.1.1) g)))+n))+(dh .u32 (dh .u32 h.1.1 i.1.1) j)))]:List Int)).bind fun B=>
 some (.inl (((),(IntKind.i64.wrap (y.1.2.1+(1:Int))),()),B,()))
else
 some (.inr (((),()),y.2.1,()))
noncomputable def Ed:xR.J->Option (ay DP):=bx Ew
theorem ado:aW U (an (codeOf Tryz.f276) 1 122) (a_ xR DP Ed):=bR Io (by kernel_rfl) ag fun y=>by kernel_rfl
abbrev i276:Shape:=⟨[aK 0 .u8],[],100⟩
abbrev R':Shape:=⟨[bc 2 3000128],[bb 3000128 .u32 2 0],100⟩
noncomputable def f276(a:i276.J):Option R'.J:=
(jx 4 (0:Int) (64:Int) (0:Int)).bind fun b=>
(Fx ((a.1.1,(),(0:Int),()),b,())).bind fun c=>
(Ed (((),(16:Int),()),c.2.1,())).bind fun d=>
 some (((),()),d.2.1,())
noncomputable def Ua:aH:=aP aj Tryz.f276 i276 R' [] f276
theorem ajm:aF U 276 Ua:=aS Io Tryz.func276 (by kernel_rfl) (a' ae2 (a' ado ag)) (fun y=>by kernel_rfl) fun a=>by kernel_rfl
end Go.Proofs
