/- FnDiskNew: a stored root is recovered. (part 4 of 7: JkKTy, JkKSp, JkKOp, JkKBc, JkKEn, JkKF115, JkKF74, JkKF75, JkKF87, JkKF99, JkKPuA, JkKF73, JkKPuB, JkKFH271, JkKF244, JkKF209, JkKF212, JkKIt, JkKF151, JkKF100, JkKF102, JkKF140, JkKF88, JkKF192, JkK) Conditions: none beyond the statement. -/
import Derived.Test.YthhecoidfjkmeaaGreatDoorZFnDiskNew2
import Derived.Tactics
import Derived.Deep.RegionLaw
import Derived.Shelf.Abstract
import Derived.Test.YthhecoidfjkmeaaGreatDoorProg
import Derived.KernelRfl
import Derived.Lib.Builder
import Derived.Lib.UnsafeStr
import Derived.WalkKit
import Derived.Shelf.RegionOpenPlain
set_option linter.unusedSimpArgs false
set_option maxRecDepth 100000
set_option linter.unusedVariables false
namespace Go.Proofs
open Go.Jk
noncomputable abbrev O:Program:=Tryz.prog
noncomputable def auS:List (Nat×b7):=[
(2,.int .i64),
(3,.int .i64),
(4,.bool),
(5,.int .u8),
(6,.int .u8),
(7,.struct [(0,1),(1,1),(2,1),(3,1)] 4 [.d (.int .i64 0),.d (.int .i64 0),.d (.bool false),.d (.int .u8 0)] false),
(8,.struct [(0,1),(1,1),(2,1),(3,1)] 4 [.d (.int .i64 0),.d (.int .i64 0),.d (.bool false),.d (.int .u8 0)] false),
(9,.str),
(10,.str),
(11,.str),
(12,.int .u64),
(13,.struct [(0,1),(1,1)] 2 [.d (.str []),.d (.int .u64 0)] false),
(14,.struct [(0,1),(1,1)] 2 [.d (.str []),.d (.int .u64 0)] false),
(15,.ptr),
(16,.ptr),
(17,.ptr),
(18,.struct [(0,1)] 1 [.cH (.pointer none)] false),
(19,.struct [(0,1)] 1 [.cH (.pointer none)] false),
(20,.iface),
(21,.int .i32),
(22,.struct [(0,1),(1,1)] 2 [.d (.str []),.d (.str [])] false),
(23,.struct [(0,1),(1,1)] 2 [.d (.str []),.d (.str [])] false),
(26,.struct [(0,1),(1,1)] 2 [.d (.str []),.d (.str [])] false),
(29,.slice 115 .pack 80),
(30,.struct [(0,1)] 1 [.nil .pack] false),
(31,.struct [(0,1)] 1 [.nil .pack] false),
(34,.slice 66 .pack 80),
(35,.struct [(0,1)] 1 [.nil .pack] false),
(36,.struct [(0,1)] 1 [.nil .pack] false),
(41,.slice 120 .file 32),
(42,.struct [(0,1),(1,1),(2,2)] 4 [.nil .file,.nil .pack,.d (.str []),.d (.str [])] false),
(43,.struct [(0,1),(1,1),(2,2)] 4 [.nil .file,.nil .pack,.d (.str []),.d (.str [])] false),
(46,.slice 124 .file 32),
(47,.struct [(0,1),(1,1),(2,2)] 4 [.nil .file,.nil .pack,.d (.str []),.d (.str [])] false),
(48,.struct [(0,1),(1,1),(2,2)] 4 [.nil .file,.nil .pack,.d (.str []),.d (.str [])] false),
(52,.slice 5 .u8 1),
(63,.slice 133 .need 40),
(64,.slice 178 .entry 48),
(65,.struct [(0,1),(1,1),(2,1),(3,1)] 4 [.d (.str []),.d (.str []),.nil .need,.nil .entry] false),
(66,.struct [(0,1),(1,1),(2,1),(3,1)] 4 [.d (.str []),.d (.str []),.nil .need,.nil .entry] false),
(84,.ptr),
(89,.ptr),
(90,.struct [(0,1),(1,1)] 2 [.cH (.pointer none),.nil .u8] false),
(91,.struct [(0,1),(1,1)] 2 [.cH (.pointer none),.nil .u8] false),
(92,.iface),
(93,.iface),
(103,.slice 9 .str 16),
(109,.slice 3 .i64 8),
(112,.slice 209 .need 40),
(113,.slice 211 .entry 48),
(114,.struct [(0,1),(1,1),(2,1),(3,1)] 4 [.d (.str []),.d (.str []),.nil .need,.nil .entry] false),
(115,.struct [(0,1),(1,1),(2,1),(3,1)] 4 [.d (.str []),.d (.str []),.nil .need,.nil .entry] false),
(119,.struct [(0,1),(1,1)] 2 [.d (.str []),.d (.str [])] false),
(120,.struct [(0,1),(1,1)] 2 [.d (.str []),.d (.str [])] true),
(124,.struct [(0,1),(1,1)] 2 [.d (.str []),.d (.str [])] true),
(132,.struct [(0,1),(1,1),(2,1)] 3 [.d (.str []),.d (.int .i64 0),.d (.str [])] false),
(133,.struct [(0,1),(1,1),(2,1)] 3 [.d (.str []),.d (.int .i64 0),.d (.str [])] true),
(140,.struct [(0,1),(1,1)] 2 [.nil .u8,.d (.int .i64 0)] false),
(141,.struct [(0,1),(1,1)] 2 [.nil .u8,.d (.int .i64 0)] false),
(144,.ptr),
(153,.int .u32),
(154,.arr 153 .u32 8),
(155,.int .u64),
(157,.slice 153 .u32 4),
(164,.func),
(177,.struct [(0,1),(1,1),(2,1),(3,1)] 4 [.d (.str []),.d (.int .i64 0),.d (.int .i64 0),.d (.str [])] false),
(178,.struct [(0,1),(1,1),(2,1),(3,1)] 4 [.d (.str []),.d (.int .i64 0),.d (.int .i64 0),.d (.str [])] true),
(183,.slice 3 .i64 8),
(202,.arr 153 .u32 64),
(203,.int .u64),
(209,.struct [(0,1),(1,1),(2,1)] 3 [.d (.str []),.d (.int .i64 0),.d (.str [])] true),
(211,.struct [(0,1),(1,1),(2,1),(3,1)] 4 [.d (.str []),.d (.int .i64 0),.d (.int .i64 0),.d (.str [])] true),
(251,.arr 4 .bool 256),
(252,.arr 4 .bool 256),
(264,.ptr),
(271,.struct [(0,1),(1,1)] 2 [.d (.int .u8 0),.d (.int .u8 0)] false),
(272,.struct [(0,1),(1,1)] 2 [.d (.int .u8 0),.d (.int .u8 0)] false),
(277,.struct [(0,1),(1,1),(2,1),(3,1)] 4 [.cH (.pointer none),.cH (.pointer none),.cH (.pointer none),.d (.str [])] false),
(278,.struct [(0,1),(1,1),(2,1),(3,1)] 4 [.cH (.pointer none),.cH (.pointer none),.cH (.pointer none),.d (.str [])] false),
(282,.int .u8),
(283,.int .u8),
(285,.int .i32),
(286,.int .i32),
(287,.struct [(0,1),(1,1),(2,1),(3,1),(4,1),(5,1),(6,1),(7,1),(8,1),(9,1),(10,1)] 11 [.d (.int .u64 0),.d (.int .u64 0),.d (.int .u32 0),.d (.int .u8 0),.d (.int .u8 0),.d (.int .u8 0),.d (.int .u8 0),.cH .nilFunc,.cH (.pointer none),.d (.int .i32 0),.d (.int .i32 0)] false),
(288,.struct [(0,1),(1,1),(2,1),(3,1),(4,1),(5,1),(6,1),(7,1),(8,1),(9,1),(10,1)] 11 [.d (.int .u64 0),.d (.int .u64 0),.d (.int .u32 0),.d (.int .u8 0),.d (.int .u8 0),.d (.int .u8 0),.d (.int .u8 0),.cH .nilFunc,.cH (.pointer none),.d (.int .i32 0),.d (.int .i32 0)] false)]
noncomputable def tt:TypeId->b7:=Bx auS
noncomputable def ad:Env:=⟨tt,[(198,266)],[230],[59],[112],[65],[(0,⟨.u32,h_⟩)]⟩
abbrev bD(s:Shape)(t:List aO):=Option (Sum s.F (aA t))
theorem aok(s p:ByteArray)(k:Int)(w:World):Calls O 232 #[.string s,.string p,.int .i64 k] w fun e w'=>
  e=.returned (.func (.func 266) #[] #[.pointer (some ⟨w.heap.size+1,0,none⟩),.pointer (some ⟨w.heap.size,0,none⟩),.pointer (some ⟨w.heap.size+2,0,none⟩)])/\
  w'=((w.alloc (.cells #[.string s] 9)).alloc (.cells #[.string p] 9)).alloc (.cells #[.int .i64 k] 3):=by
 go_enter Tryz.func232,Tryz.ntmps232
 go_wp2
 go_ret
 exact⟨rfl,rfl⟩
theorem aol(s p:ByteArray)(w:World):Calls O 198 #[.string s,.string p] w fun e w'=>
  e=.returned (.func (.func 266) #[] #[.pointer (some ⟨w.heap.size+1,0,none⟩),.pointer (some ⟨w.heap.size,0,none⟩),.pointer (some ⟨w.heap.size+2,0,none⟩)])/\
  w'=((w.alloc (.cells #[.string s] 9)).alloc (.cells #[.string p] 9)).alloc (.cells #[.int .i64 0] 3):=by
 go_enter Tryz.func198,Tryz.ntmps198
 go_wp2_with (go_at_call 232;refine(aok _ _ _ _).mono ?_;rintro e w' ⟨rfl,rfl⟩)
 go_ret
 exact⟨rfl,rfl⟩
theorem aqv:zS O 198 266:=fun a b w=>.inl ⟨enters_of Tryz.func198 (by kernel_rfl) rfl _ _,(aol a b w).mono fun e w' h=>by obtain⟨rfl,rfl⟩:=h;exact⟨9,3,rfl,rfl⟩⟩
theorem au7(w:World):Calls O 59 #[.slice none 0 0] w fun e w'=>e=.returned (.pointer (some ⟨w.heap.size,0,none⟩))/\w'=w.alloc (.cells #[.slice none 0 0,.int .i64 0] 141):=by
 go_enter Tryz.func59,Tryz.ntmps59
 go_wp2
 go_ret
 exact⟨rfl,rfl⟩
theorem au6(w:World)(a:Addr)(n c:Nat)(h:n<=2000):Calls O 59 #[.slice (some a) n c] w fun e w'=>e=.returned (.pointer (some ⟨w.heap.size,0,none⟩))/\w'=w.alloc (.cells #[.slice (some a) n c,.int .i64 0] 141):=by
 have h1:¬((n:Int)>2000):=by omega
 go_enter Tryz.func59,Tryz.ntmps59
 go_wp2
 go_ret
 exact⟨rfl,rfl⟩
theorem au8(w:World)(a:Addr)(n c:Nat)(h:2000<n)(hc:n<=c):Calls O 59 #[.slice (some a) n c] w fun e w'=>e=.returned (.pointer (some ⟨w.heap.size,0,none⟩))/\w'=w.alloc (.cells #[.slice (some a) 2000 c,.int .i64 0] 141):=by
 have h1:((n:Int)>2000):=by omega
 go_enter Tryz.func59,Tryz.ntmps59
 go_wp2
 go_ret
 exact⟨rfl,rfl⟩
theorem aq1:A2 O 59:=fun xs v w av hr=>.inl ⟨enters_of Tryz.func59 (by kernel_rfl) rfl _ _,by
 have fin:∀{v:Value} {u:Value},bF w av (.sl .u8 (xs.take 2000)) u->Calls O 59 #[v] w (fun e w'=>e=.returned (.pointer (some ⟨w.heap.size,0,none⟩))/\w'=w.alloc (.cells #[u,.int .i64 0] 141))->
   Calls O 59 #[v] w fun e w'=>match e,w' with
    |.returned v',w'=>∃u T,bF w av (.sl .u8 (xs.take 2000)) u/\v'=.pointer (some ⟨w.heap.size,0,none⟩)/\w'=w.alloc (.cells #[u,.int .i64 0] T)
    |_,_=>False:=fun hu hc=>hc.mono fun e w' h=>by obtain⟨rfl,rfl⟩:=h;exact⟨_,_,hu,rfl,rfl⟩
 cases hr with
 |nil=>exact fin (.nil .u8) (au7 w)
 |sl t xs a cap cs n hn hcap hb hl hc hr=>
  by_cases h:2000<n
  ·refine fin (u:=.slice (some a) 2000 cap) ?_ (au8 w a n cap h hcap);have hlen:(xs.take 2000).length=2000:=by simp only[List.length_take];omega
   have hf:flat .u8 (xs.take 2000)=(flat .u8 xs).take 2000:=by rw[ml];rfl
   refine .sl .u8 (xs.take 2000) a cap (cs.take 2000) 2000 hlen.symm (by omega) (fun hx=>hb (fun e=>hx (by rw[e];rfl))) (by rw[hf,List.length_take,List.length_take,hl]) (fun j u hu=>?_) (fun j h1 h2=>?_)
   ·rw[List.getElem?_take] at hu;split at hu
    ·exact hc j u hu
    ·cases hu
   ·have h1':j<(flat .u8 xs).length:=by rw[hf,List.length_take] at h1;omega
    have h2':j<cs.length:=by rw[List.length_take] at h2;omega
    have e1:(flat .u8 (xs.take 2000))[j]=(flat .u8 xs)[j]:=by simp only[hf,List.getElem_take]
    have e2:(cs.take 2000)[j]=cs[j]:=List.getElem_take;rw[e1,e2];exact hr j h1' h2'
  ·refine fin (u:=.slice (some a) n cap) ?_ (au6 w a n cap (by omega))
   rw[List.take_of_length_le (by omega)]
   exact .sl .u8 xs a cap cs n hn hcap hb hl hc hr⟩
set_option maxHeartbeats 1000000 in
theorem ann(b:Nat)(w:World)(h0:w.cell? ⟨b,0,none⟩=some (.pointer (some ⟨b,0,none⟩))):
  Calls O 112 #[.pointer (some ⟨b,0,none⟩)] w fun e w'=>e=.returned (.tuple #[])/\w'=w:=by
 obtain⟨j,hj,_⟩:=Option.map_eq_some_iff.1 (show(O.info? 91).map (·.size)=some 2 by kernel_rfl)
 go_enter Tryz.func112,Tryz.ntmps112
 go_wp2
 rw[Lib.run_neq_ptr_same w _ (show O.underlying 89=some (.pointer 91) by kernel_rfl) hj]
 go_wp2
 go_end0
 exact⟨rfl,rfl⟩
set_option maxHeartbeats 1000000 in
theorem alK(b:Nat)(w:World)(h0:w.cell? ⟨b,0,none⟩=some (.pointer none))(hsh:w.shape? b=some (91,2))(hfz:w.frozen? ⟨b,0,none⟩=false):
  Calls O 112 #[.pointer (some ⟨b,0,none⟩)] w fun e w'=>e=.returned (.tuple #[])/\w'=w.setCell ⟨b,0,none⟩ (.pointer (some ⟨b,0,none⟩)):=by
 obtain⟨j,hj,hjs⟩:=Option.map_eq_some_iff.1 (show(O.info? 91).map (·.size)=some 2 by kernel_rfl)
 go_enter Tryz.func112,Tryz.ntmps112
 go_wp2
 rw[Lib.run_to_unsafe w ⟨b,0,none⟩ (show O.underlying 89=some (.pointer 91) by kernel_rfl) (show O.underlying 193=some .unsafePointer by kernel_rfl) hj (by rw[hjs];decide) hsh (Nat.zero_lt_succ 1)]
 simp only[Result.andThen];rw[Oper.upon_value]
 go_wp2
 rw[run_callFunc_extern Tryz.func164 (by kernel_rfl) (by kernel_rfl) (by kernel_rfl) (e:=Extern.AbiNoEscape.same) (by kernel_rfl)]
 rw[Lib.run_noEscape];simp only[Result.andThen];rw[Oper.upon_value]
 go_wp2
 rw[Lib.run_from_unsafe w ⟨b,0,none⟩ (show O.underlying 193=some .unsafePointer by kernel_rfl) (show O.underlying 89=some (.pointer 91) by kernel_rfl) hj hsh (by kernel_rfl)]
 simp only[Result.andThen];rw[Oper.upon_value]
 go_wp2
 go_end0
 exact⟨rfl,rfl⟩
theorem ao8:A4 O 112:=by
 intro b p v w hb hp;refine .inl ⟨enters_of Tryz.func112 (by kernel_rfl) rfl _ _,?_⟩
 rcases hp with rfl|rfl
 ·refine(alK b w (by rw[Lib.cell_of_heap hb];rfl) (by simp[World.shape?,hb];rfl) (by simp[World.frozen?,hb])).mono ?_
  rintro e w' ⟨rfl,rfl⟩;refine⟨rfl,?_⟩;rw[setCell_eq_setRow w b 0 _ _ _ _ hb];rfl
 ·refine(ann b w (by rw[Lib.cell_of_heap hb];rfl)).mono ?_
  rintro e w' ⟨rfl,rfl⟩;exact⟨rfl,(setRow_self w' b _ _ _ hb).symm⟩
section
variable {P:Program}(w:World)
theorem My:∀(xs:List Int) (a:Addr) (acc:ByteArray),(∀j x,xs[j]? =some x->w.cell? (a.add j)=some (.int .u8 x))->
  (loadBytes a acc xs.length).run P w=.ok ⟨acc.data++(strOf xs).toArray⟩ w
 |[],a,acc,_=>by simp[loadBytes,strOf]
 |x::l,a,acc,h=>by
  have h0:w.cell? a=some (.int .u8 x):=by
   have:=h 0 x rfl;simpa[Addr.add] using this
  have ih:=My l (a.add 1) (acc.push (UInt8.ofNat x.toNat)) (fun j y hy=>by
   have:=h (j+1) y (by simpa using hy)
   have e:(a.add 1).add j=a.add (j+1):=by
    unfold Addr.add;by_cases hj:j=0
    ·subst hj;simp
    ·simp[hj];omega
   rw[e];exact this)
  have hx:(x.toNat).toUInt8=UInt8.ofNat x.toNat:=rfl;simp only[List.length_cons,loadBytes,Sem.run_bind,run_load,h0,Result.andThen,hx];rw[ih];congr 1
  apply ByteArray.ext;simp[ByteArray.push,strOf]
theorem ab8(pt it ty e:TypeId)(hp:P.underlying pt=some (.pointer e))(hc:P.cellsOf e=1)(g cells:Nat)(hsh:w.shape? g=some (e,cells))(l:List Int)(h0:l≠[])(hn:l.length<=cells)(h63:l.length<=9223372036854775807)
  (hcell:∀j x,l[j]? =some x->w.cell? ((⟨g,0,none⟩:Addr).add j)=some (.int .u8 x)):
  (Builtin.unsafeString_ #[pt,it] ty #[.pointer (some ⟨g,0,none⟩),.int .i64 l.length]).run P w=.ok (.string ⟨(strOf l).toArray⟩) (w.freeze ⟨g,0,none⟩ l.length):=by
 have hl:l.length≠0:=by simpa using h0
 have hlb:=My (P:=P) w l ⟨g,0,none⟩ .empty hcell;have hlies:=Lib.liesAt_bytes (P:=P) hc (cells/P.cellsOf e) l.length (by rw[hc];simpa using hn)
 have h63':¬(9223372036854775807:Int)<(l.length:Int):=by omega
 have hmax:IntKind.i64.max=9223372036854775807:=rfl;have hneg:¬(l.length:Int)<0:=by omega
 change Sem.run P (bind (asInt (.int .i64 (l.length:Int))) _) w=_;simp[asInt,asIntOf,hmax,h63',hneg,hl,variablesAt,hsh,elemOf,run_underlying hp,hlies,hlb]
theorem aeb(a:Addr)(n:Nat):(w.freeze a n).os=w.os/\(w.freeze a n).tape=w.tape/\(w.freeze a n).output=w.output/\(w.freeze a n).heap.size=w.heap.size/\
  (∀c,c≠a.block->(w.freeze a n).heap[c]? =w.heap[c]?)/\∀cur e fz,w.heap[a.block]? =some (.cells cur e fz)->∃fz',(w.freeze a n).heap[a.block]? =some (.cells cur e fz'):=by
 unfold World.freeze;split
 ·exact⟨rfl,rfl,rfl,rfl,fun _ _=>rfl,fun cur e fz h=>⟨fz,h⟩⟩
 ·refine⟨rfl,rfl,rfl,by simp,fun c hc=>?_,fun cur e fz h=>?_⟩
  ·simp only[Array.getElem?_modify];rw[if_neg (by omega)]
  ·simp only[Array.getElem?_modify,if_true,h,Option.map_some];exact⟨_,rfl⟩
end
abbrev pT(w:World)(v:Value)(xs:List Int)(e:Ending)(w':World):Prop:=e=.returned (.string ⟨(strOf xs).toArray⟩)/\w'.os=w.os/\w'.tape=w.tape/\w'.output=w.output/\w.heap.size<=w'.heap.size/\
   (∀c,c<w.heap.size->bN v≠some c->w'.heap[c]? =w.heap[c]?)/\∀c cur e fz,bN v=some c->w.heap[c]? =some (.cells cur e fz)->∃fz',w'.heap[c]? =some (.cells cur e fz')
set_option maxHeartbeats 2000000 in
theorem apa(b:Nat)(p:Value)(T:TypeId)(w:World)(hbk:w.heap[b]? =some (.cells #[p,.slice none 0 0] T (0,0))):
  Calls O 65 #[.pointer (some ⟨b,0,none⟩)] w (pT w (.slice none 0 0) []):=by
 have hUS:∀W q,(Builtin.unsafeString_ #[144,3] 9 #[.pointer q,.int .i64 0]).run O W=.ok (.string .empty) W:=fun W q=>Lib.run_unsafeString_none W _ _ _ q
 have c1:w.drew.cell? ⟨b,1,none⟩=some (.slice none 0 0):=by
  have:w.drew.heap[b]? =some (.cells #[p,.slice none 0 0] T (0,0)):=hbk;rw[Lib.cell_of_heap this];rfl
 have mixed:O.follows .mixedOrders=true:=by kernel_rfl
 have hSD:(Builtin.unsafeSliceData_ #[52] 144 #[.slice none 0 0]).run O w.drew=.ok (.pointer none) w.drew:=rfl;go_enter Tryz.func65,Tryz.ntmps65
 go_wp2
 go_region_o
 all_goals(go_wp2;go_ret;exact⟨rfl,rfl,rfl,rfl,Nat.le_refl _,fun _ _ _=>rfl,fun c cur e fz h=>by cases h⟩)
set_option maxHeartbeats 2000000 in
theorem ajy(b g:Nat)(p:Value)(T:TypeId)(cur:Array Value)(w:World)(hbk:w.heap[b]? =some (.cells #[p,.slice (some ⟨g,0,none⟩) 0 0] T (0,0)))(fz:Nat×Nat)(hg:w.heap[g]? =some (.cells cur 5 fz)):
  Calls O 65 #[.pointer (some ⟨b,0,none⟩)] w (pT w (.slice (some ⟨g,0,none⟩) 0 0) []):=by
 have hUS:∀W q,(Builtin.unsafeString_ #[144,3] 9 #[.pointer q,.int .i64 0]).run O W=.ok (.string .empty) W:=fun W q=>Lib.run_unsafeString_none W _ _ _ q
 have hlt:b<w.heap.size:=(Array.getElem?_eq_some_iff.1 hbk).1;have c1:w.drew.cell? ⟨b,1,none⟩=some (.slice (some ⟨g,0,none⟩) 0 0):=by
  have:w.drew.heap[b]? =some (.cells #[p,.slice (some ⟨g,0,none⟩) 0 0] T (0,0)):=hbk;rw[Lib.cell_of_heap this];rfl
 have mixed:O.follows .mixedOrders=true:=by kernel_rfl
 have t144:O.underlying 144=some (.pointer 5):=by kernel_rfl
 have hSD:(Builtin.unsafeSliceData_ #[52] 144 #[.slice (some ⟨g,0,none⟩) 0 0]).run O w.drew=.ok (.pointer (some ⟨w.drew.heap.size,0,none⟩)) (w.drew.alloc (.view ⟨g,0,none⟩ 5)):=
  Lib.run_unsafeSliceData_zero w.drew _ _ 5 t144 ⟨g,0,none⟩ 0 (5,cur.size) (by have hg':w.drew.heap[g]? =some (.cells cur 5 fz):=hg;simp[World.shape?,hg'])
 have c2:(w.drew.alloc (.view ⟨g,0,none⟩ 5)).cell? ⟨b,1,none⟩=some (.slice (some ⟨g,0,none⟩) 0 0):=by
  have:(w.drew.alloc (.view ⟨g,0,none⟩ 5)).heap[b]? =_:=(Lib.alloc_old w.drew _ b hlt).trans hbk;rw[Lib.cell_of_heap this];rfl
 have c3:(w.alloc (.view ⟨g,0,none⟩ 5)).drew.cell? ⟨b,1,none⟩=some (.slice (some ⟨g,0,none⟩) 0 0):=c2;have c0:w.cell? ⟨b,1,none⟩=some (.slice (some ⟨g,0,none⟩) 0 0):=c1;have fin:pT w (.slice (some ⟨g,0,none⟩) 0 0) [] (.returned (.string .empty)) (w.drew.alloc (.view ⟨g,0,none⟩ 5)):=by
  refine⟨rfl,rfl,rfl,rfl,by simp,fun c hc _=>Lib.alloc_old w.drew _ c hc,fun c cur' e fz' h h2=>?_⟩
  cases h;exact⟨fz',(Lib.alloc_old w.drew _ g (Array.getElem?_eq_some_iff.1 hg).1).trans h2⟩
 go_enter Tryz.func65,Tryz.ntmps65
 go_wp2
 go_region_o
 all_goals(go_wp2;go_ret;exact fin)
set_option maxHeartbeats 2000000 in
theorem ank(b g cap:Nat)(p:Value)(T:TypeId)(w:World)(hc0:cap≠0)(hbk:w.heap[b]? =some (.cells #[p,.slice (some ⟨g,0,none⟩) 0 cap] T (0,0))):
  Calls O 65 #[.pointer (some ⟨b,0,none⟩)] w (pT w (.slice (some ⟨g,0,none⟩) 0 cap) []):=by
 have hUS:∀W q,(Builtin.unsafeString_ #[144,3] 9 #[.pointer q,.int .i64 0]).run O W=.ok (.string .empty) W:=fun W q=>Lib.run_unsafeString_none W _ _ _ q
 have c1:w.drew.cell? ⟨b,1,none⟩=some (.slice (some ⟨g,0,none⟩) 0 cap):=by
  have:w.drew.heap[b]? =some (.cells #[p,.slice (some ⟨g,0,none⟩) 0 cap] T (0,0)):=hbk;rw[Lib.cell_of_heap this];rfl
 have mixed:O.follows .mixedOrders=true:=by kernel_rfl
 have hSD:(Builtin.unsafeSliceData_ #[52] 144 #[.slice (some ⟨g,0,none⟩) 0 cap]).run O w.drew=.ok (.pointer (some ⟨g,0,none⟩)) w.drew:=
  Lib.run_unsafeSliceData_row _ _ _ _ _ _ hc0
 clear hc0;go_enter Tryz.func65,Tryz.ntmps65
 go_wp2
 go_region_o
 all_goals(go_wp2;go_ret;exact⟨rfl,rfl,rfl,rfl,Nat.le_refl _,fun _ _ _=>rfl,fun c cur e fz h h2=>⟨fz,h2⟩⟩)
set_option maxHeartbeats 2000000 in
theorem ao9(b g cap:Nat)(p:Value)(T:TypeId)(cur:Array Value)(fz:Nat×Nat)(xs:List Int)(w:World)(h0:xs≠[])(hbk:w.heap[b]? =some (.cells #[p,.slice (some ⟨g,0,none⟩) xs.length cap] T (0,0)))
  (hg:w.heap[g]? =some (.cells cur 5 fz)) (hnc:xs.length<=cap) (hcm:cap<=maxLen) (hcs:cur.size=cap) (htk:cur.toList.take xs.length=xs.map (Value.int .u8)):
  Calls O 65 #[.pointer (some ⟨b,0,none⟩)] w (pT w (.slice (some ⟨g,0,none⟩) xs.length cap) xs):=by
 have hl0:xs.length≠0:=by simpa using h0
 have c1:w.drew.cell? ⟨b,1,none⟩=some (.slice (some ⟨g,0,none⟩) xs.length cap):=by
  have:w.drew.heap[b]? =some (.cells #[p,.slice (some ⟨g,0,none⟩) xs.length cap] T (0,0)):=hbk;rw[Lib.cell_of_heap this];rfl
 have mixed:O.follows .mixedOrders=true:=by kernel_rfl
 have t144:O.underlying 144=some (.pointer 5):=by kernel_rfl
 have hg':w.drew.heap[g]? =some (.cells cur 5 fz):=hg;have hSD:(Builtin.unsafeSliceData_ #[52] 144 #[.slice (some ⟨g,0,none⟩) xs.length cap]).run O w.drew=.ok (.pointer (some ⟨g,0,none⟩)) w.drew:=
  Lib.run_unsafeSliceData_row _ _ _ _ _ _ (by omega)
 have hUS:(Builtin.unsafeString_ #[144,3] 9 #[.pointer (some ⟨g,0,none⟩),.int .i64 xs.length]).run O w.drew=.ok (.string ⟨(strOf xs).toArray⟩) (w.drew.freeze ⟨g,0,none⟩ xs.length):=by
  refine ab8 w.drew 144 3 9 5 t144 (by kernel_rfl) g cur.size (by simp[World.shape?,hg']) xs h0 (by omega) (by unfold maxLen at hcm;omega) ?_
  intro j x hx;rw[gC,Nat.zero_add,cell_of_row w.drew g j cur 5 fz hg'];have hj:j<xs.length:=(List.getElem?_eq_some_iff.1 hx).1;have:=congrArg (fun l=>l[j]?) htk
  simp only[List.getElem?_take,List.getElem?_map,hx,Option.map_some,hj,if_true] at this;simpa using this
 have fin:pT w (.slice (some ⟨g,0,none⟩) xs.length cap) xs (.returned (.string ⟨(strOf xs).toArray⟩)) (w.drew.freeze ⟨g,0,none⟩ xs.length):=by
  obtain⟨f1,f2,f3,f4,f5,f6⟩:=aeb w.drew ⟨g,0,none⟩ xs.length;refine⟨rfl,f1,f2,f3,Nat.le_of_eq f4.symm,fun c _ hc=>f5 c fun e=>hc (by rw[e];rfl),fun c cur' e fz' h h2=>?_⟩
  cases h;exact f6 cur' e fz' h2
 clear htk hg' hg hcs hcm hnc hl0 h0;go_enter Tryz.func65,Tryz.ntmps65
 go_wp2
 go_region_o
 all_goals(go_wp2;go_ret;exact fin)
theorem arO:Bo O 65:=by
 intro b p v T xs w hb hrow;refine .inl ⟨enters_of Tryz.func65 (by kernel_rfl) rfl _ _,?_⟩
 have key:Calls O 65 #[.pointer (some ⟨b,0,none⟩)] w (pT w v xs):=by
  rcases hrow.2 with⟨rfl,h0⟩|⟨g,cap,cur,fz,rfl,hu,hg,hnc,hcm,hcs,htk⟩
  ·have:xs=[]:=List.eq_nil_of_length_eq_zero h0;subst this;exact apa b p T w hb
  ·by_cases h0:xs=[]
   ·subst h0;by_cases hc:cap=0
    ·subst hc;exact ajy b g p T cur w hb fz hg
    ·exact ank b g cap p T w hc hb
   ·exact ao9 b g cap p T cur fz xs w h0 hb hg hnc hcm (by simpa using hcs) (by simpa using htk)
 refine key.mono fun e w' h=>?_
 obtain⟨rfl,h⟩:=h;exact⟨rfl,h⟩
theorem awE:B0 0 .u32 h_:=ai7 (by simp[ku]) fun w h=>h.1
theorem azs:U' O ad:=⟨ajV (QG (by kernel_rfl)),by kernel_rfl,fun p h=>by
 simp only[ad,List.mem_cons,List.not_mem_nil,or_false] at h;subst h;exact aqv,fun g h=>by
 simp only[ad,List.mem_cons,List.not_mem_nil,or_false] at h;subst h;exact aq1,fun g h=>by
 simp only[ad,List.mem_cons,List.not_mem_nil,or_false] at h;subst h;exact ao8,fun g h=>by
 simp only[ad,List.mem_cons,List.not_mem_nil,or_false] at h;subst h;exact arO,fun p h=>by
 simp only[ad,List.mem_cons,List.not_mem_nil,or_false] at h;subst h;exact awE⟩
theorem aV{L:a7}(h:B7 O L):aQ O (aY ad L):=alD azs h
theorem g0:aQ O (aY ad []):=aV ⟨⟩
abbrev Rh:Shape:=⟨[ak 0,ag 1],[],53⟩
abbrev QZ:List aO:=[(.norm,⟨[ak 0,ag 1,ap 24],[],53⟩)]
noncomputable def zH(y:Rh.F):Option (aA QZ):=
 bif(!(y.1.1==([]:J))) then
 bif(!(decide ((y.1.1.length:Int)>(9:Int)))) then
 bif(decide ((y.1.1.length:Int)>(1:Int))) then
(aN y.1.1 (0:Int)).bind fun a=>
 some ((y.1.1,y.1.2.1,((a.toNat:Int)==(48:Int)),()),())
else
 some ((y.1.1,y.1.2.1,false,()),())
else
 some ((y.1.1,y.1.2.1,true,()),())
else
 some ((y.1.1,y.1.2.1,true,()),())
theorem ak0:aT O (an (codeOf Tryz.f115) 1 12) (aU Rh QZ zH):=b8 g0 (by kernel_rfl) af fun y=>by kernel_rfl
abbrev NG:Shape:=⟨[ak 0,ag 1,ag 6,ag 7,ag 26,ag 27],[],53⟩
abbrev NA:List aO:=[(.norm,⟨[ak 0,ag 1,ag 6,ag 7,ag 26,ag 27,ap 39],[],53⟩)]
noncomputable def xc(y:NG.F):Option (aA NA):=
(aN y.1.1 y.1.2.2.2.1).bind fun a=>
 bif(!(decide ((a.toNat:Int)<(48:Int)))) then
(aN y.1.1 y.1.2.2.2.1).bind fun b=>
 some ((y.1.1,y.1.2.1,y.1.2.2.1,y.1.2.2.2.1,y.1.2.2.2.2.1,y.1.2.2.2.2.2.1,(decide ((b.toNat:Int)>(57:Int))),()),())
else
 some ((y.1.1,y.1.2.1,y.1.2.2.1,y.1.2.2.2.1,y.1.2.2.2.2.1,y.1.2.2.2.2.2.1,true,()),())
theorem aeR:aT O (an (cN (an (codeOf Tryz.f115) 1 122)) 244 31332) (aU NG NA xc):=b8 g0 (by kernel_rfl) af fun y=>by kernel_rfl
abbrev x9:Shape:=⟨[ak 0,ag 1,ag 6,ag 26,ag 27],[],53⟩
abbrev E6:List aO:=[(.ret,⟨[ag 4,ap 5],[],53⟩),(.exit 0,⟨[ag 1,ag 6],[],53⟩)]
noncomputable def pH(y:x9.F):bD x9 E6:=
 bif(decide (y.1.2.2.2.2.1<y.1.2.2.2.1)) then
(xc ((y.1.1,y.1.2.1,y.1.2.2.1,y.1.2.2.2.2.1,y.1.2.2.2.1,y.1.2.2.2.2.1,()),())).bind fun a=>
 bif a.1.2.2.2.2.2.2.1 then
 some (.inr (.inl (((0:Int),false,()),())))
else
(aN a.1.1 a.1.2.2.2.1).bind fun b=>
 some (.inl ((a.1.1,a.1.2.1,(IntKind.i64.wrap ((IntKind.i64.wrap (a.1.2.2.1*(10:Int)))+(IntKind.i64.wrap (IntKind.u8.wrap ((b.toNat:Int)-(48:Int)))))),a.1.2.2.2.2.1,(IntKind.i64.wrap (a.1.2.2.2.2.2.1+(1:Int))),()),()))
else
 some (.inr (.inr ((y.1.2.1,y.1.2.2.1,()),())))
noncomputable def ry:x9.F->Option (aA E6):=bo pH
theorem aiG:aT O (an (codeOf Tryz.f115) 1 122) (aU x9 E6 ry):=bE g0 (by kernel_rfl) (a6 aeR af) fun y=>by kernel_rfl
abbrev i115:Shape:=⟨[ak 0,ag 1],[],53⟩
abbrev Xd:Shape:=⟨[ag 4,ap 5],[],53⟩
noncomputable def f115(a:i115.F):Option Xd.F:=
(zH ((a.1.1,a.1.2.1,()),())).bind fun b=>
 bif b.1.2.2.1 then
 some (((0:Int),false,()),())
else
(ry ((b.1.1,b.1.2.1,(0:Int),(b.1.1.length:Int),(0:Int),()),())).bind fun c=>
(match c with
|.inl d=>
 some ((d.1.1,d.1.2.1,()),())
|.inr e=>
 bif(decide (e.1.2.1>e.1.1)) then
 some (((0:Int),false,()),())
else
 some ((e.1.2.1,true,()),()))
noncomputable def BX:aB:=aG ad Tryz.f115 i115 Xd [] f115
theorem IS:ay O 115 BX:=aJ g0 Tryz.func115 (by kernel_rfl) (a6 ak0 (a6 aiG af)) (fun y=>by kernel_rfl) fun a=>by kernel_rfl
abbrev PT:Shape:=⟨[ak 0,ag 3,ag 4],[],47⟩
abbrev PB:List aO:=[(.norm,⟨[ak 0,ag 3,ag 4,ap 24],[],47⟩)]
noncomputable def FB(y:PT.F):Option (aA PB):=
(aN y.1.1 y.1.2.2.1).bind fun a=>
 bif(!(decide ((a.toNat:Int)<(48:Int)))) then
(aN y.1.1 y.1.2.2.1).bind fun b=>
 bif(!(decide ((b.toNat:Int)>(57:Int)))) then
 some ((y.1.1,y.1.2.1,y.1.2.2.1,(decide (y.1.2.2.1>=(6:Int))),()),())
else
 some ((y.1.1,y.1.2.1,y.1.2.2.1,true,()),())
else
 some ((y.1.1,y.1.2.1,y.1.2.2.1,true,()),())
theorem aib:aT O (an (cN (an (codeOf Tryz.f74) 1 58)) 116 3728) (aU PT PB FB):=b8 g0 (by kernel_rfl) af fun y=>by kernel_rfl
abbrev Ac:Shape:=⟨[ak 0,ag 3,ag 4],[],47⟩
abbrev HI:List aO:=[(.ret,⟨[ag 2],[],47⟩),(.exit 0,⟨[ak 0,ag 3],[],47⟩)]
noncomputable def AE(y:Ac.F):bD Ac HI:=
 bif(decide (y.1.2.2.1<(y.1.1.length:Int))) then
(FB ((y.1.1,y.1.2.1,y.1.2.2.1,()),())).bind fun a=>
 bif a.1.2.2.2.1 then
 some (.inr (.inl ((((-1):Int),()),())))
else
(aN a.1.1 a.1.2.2.1).bind fun b=>
 some (.inl ((a.1.1,(IntKind.i64.wrap ((IntKind.i64.wrap (a.1.2.1*(10:Int)))+(IntKind.i64.wrap (IntKind.u8.wrap ((b.toNat:Int)-(48:Int)))))),(IntKind.i64.wrap (a.1.2.2.1+(1:Int))),()),()))
else
 some (.inr (.inr ((y.1.1,y.1.2.1,()),())))
noncomputable def H6:Ac.F->Option (aA HI):=bo AE
theorem amy:aT O (an (codeOf Tryz.f74) 1 58) (aU Ac HI H6):=bE g0 (by kernel_rfl) (a6 aib af) fun y=>by kernel_rfl
abbrev SD:Shape:=⟨[ak 0,ag 3],[],47⟩
abbrev Sr:List aO:=[(.norm,⟨[ag 3,ap 45],[],47⟩)]
noncomputable def If(y:SD.F):Option (aA Sr):=
 bif(!((y.1.1.length:Int)==(0:Int))) then
 bif(decide ((y.1.1.length:Int)>(1:Int))) then
(aN y.1.1 (0:Int)).bind fun a=>
 some ((y.1.2.1,((a.toNat:Int)==(48:Int)),()),())
else
 some ((y.1.2.1,false,()),())
else
 some ((y.1.2.1,true,()),())
theorem amx:aT O (an (codeOf Tryz.f74) 1 60) (aU SD Sr If):=b8 g0 (by kernel_rfl) af fun y=>by kernel_rfl
abbrev i74:Shape:=⟨[ak 0],[],47⟩
abbrev _k:Shape:=⟨[ag 2],[],47⟩
noncomputable def f74(a:i74.F):Option _k.F:=
(H6 ((a.1.1,(0:Int),(0:Int),()),())).bind fun b=>
(match b with
|.inl c=>
 some ((c.1.1,()),())
|.inr d=>
(If ((d.1.1,d.1.2.1,()),())).bind fun e=>
 bif e.1.2.1 then
 some ((((-1):Int),()),())
else
 some ((e.1.1,()),()))
noncomputable def CN:aB:=aG ad Tryz.f74 i74 _k [] f74
theorem Kd:ay O 74 CN:=aJ g0 Tryz.func74 (by kernel_rfl) (a6 amy (a6 amx af)) (fun y=>by kernel_rfl) fun a=>by kernel_rfl
abbrev i75:Shape:=⟨[ag 0,ag 1,ag 2],[],15⟩
abbrev _j:Shape:=⟨[ap 6],[],15⟩
noncomputable def f75(a:i75.F):Option _j.F:=
 bif(decide (a.1.1>=a.1.2.1)) then
 some (((decide (a.1.1<=a.1.2.2.1)),()),())
else
 some ((false,()),())
noncomputable def n4:aB:=aG ad Tryz.f75 i75 _j [] f75
theorem z75:ay O 75 n4:=aJ g0 Tryz.func75 (by kernel_rfl) af (fun y=>by kernel_rfl) fun a=>by kernel_rfl
noncomputable abbrev axq:a7:=[(75,n4)]
theorem CT:aQ O (aY ad axq):=aV ⟨z75,⟨⟩⟩
abbrev Q4:Shape:=⟨[ak 0,ag 3],[],42⟩
abbrev QK:List aO:=[(.norm,⟨[ak 0,ag 3,ap 4],[],42⟩)]
noncomputable def Hf(y:Q4.F):Option (aA QK):=
(aN y.1.1 y.1.2.1).bind fun a=>
 bif(decide ((a.toNat:Int)>=(97:Int))) then
(aN y.1.1 y.1.2.1).bind fun b=>
 some ((y.1.1,y.1.2.1,(decide ((b.toNat:Int)<=(122:Int))),()),())
else
 some ((y.1.1,y.1.2.1,false,()),())
theorem aj2:aT O (an (cN (an (codeOf Tryz.f87) 1 26)) 52 840) (aU Q4 QK Hf):=b8 CT (by kernel_rfl) af fun y=>by kernel_rfl
abbrev PR:Shape:=⟨[ak 0,ag 3,ap 4],[],42⟩
abbrev Pz:List aO:=[(.norm,⟨[ak 0,ag 3,ap 38],[],42⟩)]
noncomputable def FA(y:PR.F):Option (aA Pz):=
 bif(!y.1.2.2.1) then
 bif(!(y.1.2.1==(0:Int))) then
(aN y.1.1 y.1.2.1).bind fun a=>
 bif(!(decide ((a.toNat:Int)<(48:Int)))) then
(aN y.1.1 y.1.2.1).bind fun b=>
 some ((y.1.1,y.1.2.1,(decide ((b.toNat:Int)>(57:Int))),()),())
else
 some ((y.1.1,y.1.2.1,true,()),())
else
 some ((y.1.1,y.1.2.1,true,()),())
else
 some ((y.1.1,y.1.2.1,false,()),())
theorem ah9:aT O (an (cN (an (codeOf Tryz.f87) 1 26)) 52 1682) (aU PR Pz FA):=b8 CT (by kernel_rfl) af fun y=>by kernel_rfl
abbrev Ab:Shape:=⟨[ak 0,ag 3],[],42⟩
abbrev HH:List aO:=[(.ret,⟨[ap 2],[],42⟩),(.exit 0,⟨[ak 0],[],42⟩)]
noncomputable def AD(y:Ab.F):bD Ab HH:=
 bif(decide (y.1.2.1<(y.1.1.length:Int))) then
(Hf ((y.1.1,y.1.2.1,()),())).bind fun a=>
(FA ((a.1.1,a.1.2.1,a.1.2.2.1,()),())).bind fun b=>
 bif b.1.2.2.1 then
 some (.inr (.inl ((false,()),())))
else
 some (.inl ((b.1.1,(IntKind.i64.wrap (b.1.2.1+(1:Int))),()),()))
else
 some (.inr (.inr ((y.1.1,()),())))
noncomputable def H5:Ab.F->Option (aA HH):=bo AD
theorem amv:aT O (an (codeOf Tryz.f87) 1 26) (aU Ab HH H5):=bE CT (by kernel_rfl) (a6 aj2 (a6 ah9 af)) fun y=>by kernel_rfl
abbrev i87:Shape:=⟨[ak 0],[],42⟩
abbrev _d:Shape:=⟨[ap 2],[],42⟩
noncomputable def f87(a:i87.F):Option _d.F:=
(H5 ((a.1.1,(0:Int),()),())).bind fun b=>
(match b with
|.inl c=>
 some ((c.1.1,()),())
|.inr d=>
(f75 (((d.1.1.length:Int),(1:Int),(10:Int),()),())).bind fun e=>
 some ((e.1.1,()),()))
noncomputable def Lt:aB:=aG ad Tryz.f87 i87 _d [] f87
theorem z87:ay O 87 Lt:=aJ CT Tryz.func87 (by kernel_rfl) (a6 amv af) (fun y=>by kernel_rfl) fun a=>by kernel_rfl
abbrev SB:Shape:=⟨[ak 0],[],49⟩
abbrev Sp:List aO:=[(.norm,⟨[ak 0,ap 20],[],49⟩)]
noncomputable def Ie(y:SB.F):Option (aA Sp):=
 bif(!(y.1.1==([]:J))) then
 bif(!(decide ((y.1.1.length:Int)>(10:Int)))) then
(aN y.1.1 (0:Int)).bind fun a=>
 bif(!(decide ((a.toNat:Int)<(97:Int)))) then
(aN y.1.1 (0:Int)).bind fun b=>
 some ((y.1.1,(decide ((b.toNat:Int)>(122:Int))),()),())
else
 some ((y.1.1,true,()),())
else
 some ((y.1.1,true,()),())
else
 some ((y.1.1,true,()),())
theorem amp:aT O (an (codeOf Tryz.f99) 1 12) (aU SB Sp Ie):=b8 g0 (by kernel_rfl) af fun y=>by kernel_rfl
abbrev PQ:Shape:=⟨[ak 0,ag 3,ag 22,ag 23],[],49⟩
abbrev Py:List aO:=[(.norm,⟨[ak 0,ag 22,ag 23,ap 47],[],49⟩)]
noncomputable def Fz(y:PQ.F):Option (aA Py):=
(aN y.1.1 y.1.2.1).bind fun a=>
 bif(!(decide ((a.toNat:Int)<(97:Int)))) then
(aN y.1.1 y.1.2.1).bind fun b=>
 bif(decide ((b.toNat:Int)>(122:Int))) then
(aN y.1.1 y.1.2.1).bind fun c=>
 bif(!(decide ((c.toNat:Int)<(48:Int)))) then
(aN y.1.1 y.1.2.1).bind fun d=>
 some ((y.1.1,y.1.2.2.1,y.1.2.2.2.1,(decide ((d.toNat:Int)>(57:Int))),()),())
else
 some ((y.1.1,y.1.2.2.1,y.1.2.2.2.1,true,()),())
else
 some ((y.1.1,y.1.2.2.1,y.1.2.2.2.1,false,()),())
else
(aN y.1.1 y.1.2.1).bind fun e=>
 bif(!(decide ((e.toNat:Int)<(48:Int)))) then
(aN y.1.1 y.1.2.1).bind fun f=>
 some ((y.1.1,y.1.2.2.1,y.1.2.2.2.1,(decide ((f.toNat:Int)>(57:Int))),()),())
else
 some ((y.1.1,y.1.2.2.1,y.1.2.2.2.1,true,()),())
theorem ah8:aT O (an (cN (an (codeOf Tryz.f99) 1 58)) 116 7474) (aU PQ Py Fz):=b8 g0 (by kernel_rfl) af fun y=>by kernel_rfl
abbrev z6:Shape:=⟨[ak 0,ag 22,ag 23],[],49⟩
abbrev HC:List aO:=[(.ret,⟨[ap 2],[],49⟩),(.exit 0,⟨[],[],49⟩)]
noncomputable def Ax(y:z6.F):bD z6 HC:=
 bif(decide (y.1.2.2.1<y.1.2.1)) then
(Fz ((y.1.1,y.1.2.2.1,y.1.2.1,y.1.2.2.1,()),())).bind fun a=>
 bif a.1.2.2.2.1 then
 some (.inr (.inl ((false,()),())))
else
 some (.inl ((a.1.1,a.1.2.1,(IntKind.i64.wrap (a.1.2.2.1+(1:Int))),()),()))
else
 some (.inr (.inr ((),())))
noncomputable def HZ:z6.F->Option (aA HC):=bo Ax
theorem amo:aT O (an (codeOf Tryz.f99) 1 58) (aU z6 HC HZ):=bE g0 (by kernel_rfl) (a6 ah8 af) fun y=>by kernel_rfl
abbrev i99:Shape:=⟨[ak 0],[],49⟩
abbrev Z9:Shape:=⟨[ap 2],[],49⟩
noncomputable def f99(a:i99.F):Option Z9.F:=
(Ie ((a.1.1,()),())).bind fun b=>
 bif b.1.2.1 then
 some ((false,()),())
else
(HZ ((b.1.1,(b.1.1.length:Int),(0:Int),()),())).bind fun c=>
(match c with
|.inl d=>
 some ((d.1.1,()),())
|.inr e=>
 some ((true,()),()))
noncomputable def Lr:aB:=aG ad Tryz.f99 i99 Z9 [] f99
theorem ZS:ay O 99 Lr:=aJ g0 Tryz.func99 (by kernel_rfl) (a6 amp (a6 amo af)) (fun y=>by kernel_rfl) fun a=>by kernel_rfl
def iq(b:UInt8):Bool:=decide ((97:Int)<=(b.toNat:Int))&&decide ((b.toNat:Int)<=122)
def cK(b:UInt8):Bool:=decide ((48:Int)<=(b.toNat:Int))&&decide ((b.toNat:Int)<=57)
def within(n cI hi:Int):Bool:=decide (cI<=n)&&decide (n<=hi)
theorem rQ(a):f75 a=some ((within a.1.1 a.1.2.1 a.1.2.2.1,()),()):=by
 simp only[f75,within,ge_iff_le];cases decide (a.1.2.1<=a.1.1)<;>rfl
def hZ(s:J):Bool:=allI (fun i x=>iq x||(!(i==0)&&cK x)) 0 s&&within s.length 1 10
theorem Pr(a)(hs:ax a.1.1.length):f87 a=some ((hZ a.1.1,()),()):=by
 obtain⟨⟨s,u⟩,bT⟩:=a;have key:H5 ((s,((0:Int),())),())=some (bif allI (fun i x=>iq x||(!(i==0)&&cK x)) 0 s then .inr ((s,()),()) else .inl ((false,()),())):=by
  refine fy AD s (fun i=>((s,((i:Int),())),())) _ _ _ (fun i x hx=>?_) ?_
  ·have hi:=cD hx;have hw:ax i:=by unfold ax at*;simp only at hs;omega
   simp only[AD,cq hi,cond_true,Hf,FA,bY,hx,Option.bind_some,b4 hw,ge_iff_le,XS];unfold iq cK;by_cases h1:(97:Int)<=(x.toNat:Int)<;>by_cases h2:(x.toNat:Int)<=122<;>cases h3:(i==0)<;>by_cases aE:(48:Int)<=(x.toNat:Int)<;>by_cases bi:(x.toNat:Int)<=57<;>simp[h1,h2,h3,aE,bi,b4 hw,bY,hx,XS,nX,mW,-beq_iff_eq]
  ·simp only[AD,dd,cond_false]
 simp only[f87,key,Option.bind_some];unfold hZ;cases allI (fun i x=>iq x||(!(i==0)&&cK x)) 0 s with
 |false=>rfl
 |true=>simp only[cond_true,rQ,Option.bind_some,Bool.true_and]
theorem M'(b:UInt8)(r:J):hZ (b::r)=(iq b&&(b::r).all (fun x=>iq x||cK x)&&decide (((b::r).length:Int)<=10)):=by
 unfold hZ;simp only[allI,List.all_cons];have:allI (fun i x=>iq x||(!(i==0)&&cK x)) (0+1) r=r.all (fun x=>iq x||cK x):=by
  have hz:∀(i:Nat) (x:UInt8),1<=i->x∈r->(iq x||(!(i==0)&&cK x))=(iq x||cK x):=by
   intro i x hi _;have:(i==0)=false:=by simp;omega
   rw[this];simp
  rw[N1 (l3:=fun _ x=>iq x||cK x) r 1 hz,gz]
 rw[this];unfold within;have:decide ((1:Int)<=((b::r).length:Int))=true:=by simp only[List.length_cons,decide_eq_true_eq];omega
 rw[this];cases iq b<;>simp
theorem MF(a)(hs:ax a.1.1.length):f99 a=some ((hZ a.1.1,()),()):=by
 obtain⟨⟨s,u⟩,bT⟩:=a;have key:HZ ((s,((s.length:Int),((0:Int),()))),())=some (bif allI (fun _ x=>iq x||cK x) 0 s then .inr ((),()) else .inl ((false,()),())):=by
  refine fy Ax s (fun i=>((s,((s.length:Int),((i:Int),()))),())) _ _ _ (fun i x hx=>?_) ?_
  ·have hi:=cD hx;have hw:ax i:=by unfold ax at*;simp only at hs;omega
   simp only[Ax,cq hi,cond_true,Fz,bY,hx,Option.bind_some,b4 hw,nX,mW];unfold iq cK;by_cases h1:(97:Int)<=(x.toNat:Int)<;>by_cases h2:(x.toNat:Int)<=122<;>by_cases aE:(48:Int)<=(x.toNat:Int)<;>by_cases bi:(x.toNat:Int)<=57<;>simp[h1,h2,aE,bi,b4 hw,bY,hx,nX,mW]
  ·simp only[Ax,dd,cond_false]
 rw[gz] at key;cases s with
 |nil=>rfl
 |cons b r=>
  have hb:aN (b::r) 0=some b:=rfl;simp only[f99,Ie,hb,Option.bind_some,nX,mW,M'];have he:((b::r)==([]:J))=false:=rfl;have hl:iq b=(decide ((97:Int)<=(b.toNat:Int))&&decide ((b.toNat:Int)<=122)):=rfl;rw[he,hl];by_cases h1:(97:Int)<=(b.toNat:Int)<;>by_cases h2:(b.toNat:Int)<=122<;>by_cases h3:((b::r).length:Int)<=10<;>
   simp only[h1,h2,h3,decide_true,decide_false,Bool.not_true,Bool.not_false,cond_true,cond_false,Option.bind_some,Bool.true_and,Bool.and_true,Bool.false_and,Bool.and_false]
  rw[key];generalize List.all (b::r) (fun x=>iq x||cK x)=q
  cases q<;>rfl
def dT(n:Int)(b:UInt8):Int:=n*10+((b.toNat:Int)-48)
def c5(s:J):Int:=s.foldl dT 0
def il:J->Bool
 |b::_::_=>(b.toNat:Int)==48
 |_=>false
def e_(s:J):Bool:=s.all cK&&!(s==[])&&!il s&&decide (s.length<=6)&&decide (c5 s<=999)
theorem ig{b:UInt8}(h:cK b=true):48<=(b.toNat:Int)/\(b.toNat:Int)<=57:=by
 simpa[cK] using h
theorem ama{b:UInt8}(h:cK b=true):IntKind.u8.wrap ((b.toNat:Int)-48)=(b.toNat:Int)-48:=by
 have:=ig h;rw[IntKind.wrap_u8];omega
theorem Du{n:Int}{b:UInt8}{i:Nat}(h:cK b=true)(h0:0<=n)(h1:n<10^i):0<=dT n b/\dT n b<10^(i+1):=by
 have:=ig h;unfold dT;rw[Int.pow_succ];omega
theorem ak6{i:Nat}(h:i<=9):(10:Int)^i<=1000000000:=by
 have:i=0\/i=1\/i=2\/i=3\/i=4\/i=5\/i=6\/i=7\/i=8\/i=9:=by omega
 rcases this with rfl|rfl|rfl|rfl|rfl|rfl|rfl|rfl|rfl|rfl<;>decide
theorem D'{n:Int}{b:UInt8}{i:Nat}(h:cK b=true)(hi:i<=8)(h0:0<=n)(h1:n<10^i):
  IntKind.i64.wrap (IntKind.i64.wrap (n*10)+IntKind.i64.wrap (IntKind.u8.wrap ((b.toNat:Int)-48)))=dT n b:=by
 have Z:=ig h;have hp:=ak6 (show i<=9 by omega)
 rw[ama h,cM (n:=n*10) (by omega) (by omega),cM (n:=(b.toNat:Int)-48) (by omega) (by omega),cM (by omega) (by omega)]
 rfl
theorem ajS(a)(hs:ax a.1.1.length):f74 a=some ((bif a.1.1.all cK&&decide (a.1.1.length<=6)&&!(a.1.1==[])&&!il a.1.1 then c5 a.1.1 else-1,()),()):=by
 obtain⟨⟨s,u⟩,bT⟩:=a;have key:H6 ((s,((0:Int),((0:Int),()))),())=some (bif allI (fun i x=>cK x&&decide (i<6)) 0 s then .inr ((s,(c5 s,())),()) else .inl ((((-1):Int),()),())):=by
  have:=lE AE s (fun i n=>((s,(n,((i:Int),()))),())) (fun i x n=>some (bif cK x&&decide (i<6) then .inl (dT n x) else .inr (.inl ((((-1):Int),()),())))) (fun n=>.inr ((s,(n,())),()))
   (fun i n=>0<=n/\n<10^i/\(i<=6)) (0:Int) ⟨by decide,by decide,by decide⟩ (fun i x n hx c'=>?_) (fun n _=>?_)
  ·exact this.trans (by rw[w1];rfl)
  ·have hi:=cD hx;have hw:ax i:=by unfold ax at*;simp only at hs;omega
   obtain⟨h0,h1,ca⟩:=c';refine⟨?_,fun aM aj=>?_⟩
   ·simp only[AE,cq hi,cond_true,FB,bY,hx,Option.bind_some,b4 hw,nX,mW,Lh];have arb:decide ((6:Int)<=(i:Int))=!decide (i<6):=by by_cases h:i<6<;>simp[h]<;>omega
    rw[arb];cases Z:cK x with
    |false=>
     unfold cK at Z;by_cases aE:(48:Int)<=(x.toNat:Int)<;>by_cases bi:(x.toNat:Int)<=57<;>simp[aE,bi] at Z ⊢
    |true=>
     obtain⟨aE,bi⟩:=ig Z;cases aC:decide (i<6) with
     |false=>simp[aE,bi]
     |true=>
      have aC:i<6:=by simpa using aC
      have:=D' (i:=i) Z (by omega) h0 h1
      simp only[aE,bi,decide_true,Bool.not_true,Bool.not_false,cond_true,cond_false,Option.bind_some,bY,hx,this,b4 hw,Bool.and_true,Option.map_some]
   ·simp only[Option.some.injEq] at aj;cases aC:(cK x&&decide (i<6)) with
    |false=>rw[aC] at aj;cases aj
    |true=>
     rw[aC] at aj;simp only[cond_true,Sum.inl.injEq] at aj;simp only[Bool.and_eq_true,decide_eq_true_eq] at aC;subst aj;have:=Du aC.1 h0 h1;exact⟨this.1,this.2,by omega⟩
  ·simp only[AE,dd,cond_false]
 rw[FM,gz,alQ] at key;simp only[f74,key,Option.bind_some];cases s with
 |nil=>rfl
 |cons b r=>
  have hb:aN (b::r) 0=some b:=rfl;have he:((b::r)==([]:J))=false:=rfl;have hz:(((b::r).length:Int)==0)=false:=by simp only[List.length_cons,beq_eq_false_iff_ne,ne_eq];omega
  have hl:decide (((b::r).length:Int)>1)=!(r==[]):=by cases r<;>simp;omega
  simp only[List.isEmpty_cons,Bool.false_or,Nat.zero_add,he,Bool.not_false,Bool.and_true];cases aC:(List.all (b::r) cK&&decide ((b::r).length<=6)) with
  |false=>rfl
  |true=>
   simp only[cond_true,If,hz,Bool.not_false,hl,hb,Option.bind_some,Bool.true_and];cases r with
   |nil=>rfl
   |cons c r=>
    have:((c::r)==([]:J))=false:=rfl;rw[this];simp only[Bool.not_false,cond_true,Option.bind_some,il];cases ((b.toNat:Int)==48)<;>rfl
theorem afu:∀(r:J) (n:Int) (k:Nat),r.all cK=true->0<=n->10^k<=n->10^(k+r.length)<=r.foldl dT n:=by
 intro r;induction r with
 |nil=>intro n k _ _ h;exact h
 |cons b r ih=>
  intro n k Z h0 h;simp only[List.all_cons,Bool.and_eq_true] at Z;have hb:=ig Z.1;have hs:10^(k+1)<=dT n b:=by unfold dT;rw[Int.pow_succ];omega
  have:=ih (dT n b) (k+1) Z.2 (by unfold dT;omega) hs
  simp only[List.length_cons,List.foldl_cons];rw[show k+(r.length+1)=k+1+r.length by omega]
  exact this
theorem aiK{n:Nat}(h:6<=n):(1000000:Int)<=10^n:=by
 induction n with
 |zero=>omega
 |succ n ih=>
  by_cases ca:6<=n
  ·have:=ih ca;rw[Int.pow_succ];omega
  ·have:n=5:=by omega
   subst this;decide
theorem ajL{s:J}(Z:s.all cK=true)(hl:il s=false)(hX:7<=s.length):999<c5 s:=by
 match s,hX with
 |b::c::r,hX=>
  simp only[il,beq_eq_false_iff_ne,ne_eq] at hl;simp only[List.all_cons,Bool.and_eq_true] at Z;have hb:=ig Z.1;have hc:=ig Z.2.1;have hs:(10:Int)^0<=dT 0 b:=by unfold dT;simp;omega
  have:=afu (c::r) (dT 0 b) 0 (by simp[Z.2.1,Z.2.2]) (by unfold dT;omega) hs
  have h2:(1000000:Int)<=10^(0+(c::r).length):=aiK (by simp only[List.length_cons] at hX ⊢;omega)
  show 999<List.foldl dT (dT 0 b) (c::r);omega
theorem ahr(a)(hs:ax a.1.1.length)(hH:a.1.2.1=999):f115 a=some ((bif e_ a.1.1 then c5 a.1.1 else 0,(e_ a.1.1,())),()):=by
 obtain⟨⟨s,m,u⟩,bT⟩:=a;obtain rfl:m=999:=hH;have key:s.length<=9->ry ((s,((999:Int),((0:Int),((s.length:Int),((0:Int),()))))),())=some (bif allI (fun i x=>cK x) 0 s then .inr (((999:Int),(c5 s,())),()) else .inl (((0:Int),(false,())),())):=by
  intro hH;have:=lE pH s (fun i n=>((s,((999:Int),(n,((s.length:Int),((i:Int),()))))),())) (fun i x n=>some (bif cK x then .inl (dT n x) else .inr (.inl (((0:Int),(false,())),())))) (fun n=>.inr (((999:Int),(n,())),()))
   (fun i n=>0<=n/\n<10^i/\(i<=9)) (0:Int) ⟨by decide,by decide,by decide⟩ (fun i x n hx c'=>?_) (fun n _=>?_)
  ·exact this.trans (by rw[w1];rfl)
  ·have hi:=cD hx;have hw:ax i:=by unfold ax at*;simp only at hs;omega
   obtain⟨h0,h1,ca⟩:=c';refine⟨?_,fun aM aj=>?_⟩
   ·simp only[pH,cq hi,cond_true,xc,bY,hx,Option.bind_some,b4 hw,nX,mW,Lh];cases Z:cK x with
    |false=>
     unfold cK at Z;by_cases aE:(48:Int)<=(x.toNat:Int)<;>by_cases bi:(x.toNat:Int)<=57<;>simp[aE,bi] at Z ⊢
    |true=>
     obtain⟨aE,bi⟩:=ig Z;have:=D' (i:=i) Z (by omega) h0 h1
     simp only[aE,bi,decide_true,Bool.not_true,Bool.not_false,cond_true,cond_false,Option.bind_some,bY,hx,this,b4 hw,Bool.and_true,Option.map_some]
   ·simp only[Option.some.injEq] at aj;cases aC:cK x with
    |false=>rw[aC] at aj;cases aj
    |true=>
     rw[aC] at aj;simp only[cond_true,Sum.inl.injEq] at aj;subst aj;have:=Du aC h0 h1;exact⟨this.1,this.2,by omega⟩
  ·simp only[pH,dd,cond_false]
 rw[gz] at key;cases s with
 |nil=>rfl
 |cons b r=>
  have hb:aN (b::r) 0=some b:=rfl;have he:((b::r)==([]:J))=false:=rfl;have hl:decide (((b::r).length:Int)>1)=!(r==[]):=by cases r<;>simp;omega
  have hH:decide (((b::r).length:Int)>9)=!decide ((b::r).length<=9):=by by_cases h:(b::r).length<=9<;>simp only[h,decide_true,decide_false,Bool.not_true,Bool.not_false,decide_eq_true_eq,decide_eq_false_iff_not]<;>omega
  have p4:il (b::r)=(!(r==[])&&(b.toNat:Int)==48):=by cases r<;>rfl
  simp only[f115,zH,he,hl,hH,Bool.not_false,cond_true,Bool.not_not,hb,Option.bind_some];have fin:(b::r).length<=9->il (b::r)=false->((ry ((b::r,((999:Int),((0:Int),(((b::r).length:Int),((0:Int),()))))),())).bind fun IZ=>match IZ with
    |.inl u9=>some ((u9.1.1,(u9.1.2.1,())),())
    |.inr qe=>bif decide (qe.1.2.1>qe.1.1) then some (((0:Int),(false,())),()) else some ((qe.1.2.1,(true,())),()))=
    some ((bif e_ (b::r) then c5 (b::r) else 0,(e_ (b::r),())),()):=by
   intro hH jx;rw[key hH];unfold e_;rw[he,jx];cases Z:List.all (b::r) cK with
   |false=>rfl
   |true=>
    simp only[cond_true,Option.bind_some,Bool.not_false,Bool.true_and,mW];by_cases ca:(b::r).length<=6
    ·simp only[ca,decide_true,Bool.true_and];cases decide (c5 (b::r)<=999)<;>rfl
    ·have:=ajL Z jx (by omega)
     have:decide (c5 (b::r)<=999)=false:=by simp only[decide_eq_false_iff_not];omega
     rw[this];simp only[ca,decide_false,Bool.false_and];rfl
  by_cases aC:(b::r).length<=9
  ·simp only[aC,decide_true,cond_true];cases hr:(r==[]) with
   |true=>
    simp only[Bool.not_true,cond_false,Option.bind_some];exact fin aC (by rw[p4,hr];rfl)
   |false=>
    simp only[Bool.not_false,cond_true,Option.bind_some];cases pd:((b.toNat:Int)==48) with
    |true=>
     have:e_ (b::r)=false:=by unfold e_;rw[p4,hr,pd];simp
     rw[this];rfl
    |false=>
     simp only[cond_false];exact fin aC (by rw[p4,hr,pd];rfl)
  ·have:e_ (b::r)=false:=by
    unfold e_;have:decide ((b::r).length<=6)=false:=by simp only[decide_eq_false_iff_not];omega
    rw[this];simp
   simp only[aC,decide_false,cond_false,Option.bind_some,cond_true,this]
abbrev yt:Shape:=⟨[ak 0,(1,.am (.d (.int .u8))),ag 2,a_ 7 3000448,ag 8,ag 9],[a8 3000448 .str 7 0],43⟩
abbrev ub:List aO:=[(.exit 0,⟨[ak 0,a_ 7 3000448,ag 8],[a8 3000448 .str 7 0],43⟩)]
noncomputable def zl(y:yt.F):bD yt ub:=
 bif(decide (y.1.2.2.2.2.2.1<(y.1.1.length:Int))) then
 bif(decide ((y.2.1.length:Int)<y.1.2.2.1)) then
(aN y.1.1 y.1.2.2.2.2.2.1).bind fun a=>
 bif((a.toNat:Int)==y.1.2.1) then
(bu y.1.1 y.1.2.2.2.2.1 y.1.2.2.2.2.2.1).bind fun b=>
(cj 16 y.2.1 ([b]:List J)).bind fun c=>
 some (.inl ((y.1.1,y.1.2.1,y.1.2.2.1,(),(IntKind.i64.wrap (y.1.2.2.2.2.2.1+(1:Int))),(IntKind.i64.wrap (y.1.2.2.2.2.2.1+(1:Int))),()),c,()))
else
 some (.inl ((y.1.1,y.1.2.1,y.1.2.2.1,(),y.1.2.2.2.2.1,(IntKind.i64.wrap (y.1.2.2.2.2.2.1+(1:Int))),()),y.2.1,()))
else
 some (.inr ((y.1.1,(),y.1.2.2.2.2.1,()),y.2.1,()))
else
 some (.inr ((y.1.1,(),y.1.2.2.2.2.1,()),y.2.1,()))
noncomputable def GH:yt.F->Option (aA ub):=bo zl
theorem aj4:aT O (an (codeOf Tryz.f73) 1 122) (aU yt ub GH):=bE g0 (by kernel_rfl) af fun y=>by kernel_rfl
abbrev i73:Shape:=⟨[ak 0,(1,.am (.d (.int .u8))),ag 2],[],43⟩
abbrev _l:Shape:=⟨[a_ 6 3000384],[a8 3000384 .str 6 0],43⟩
noncomputable def f73(a:i73.F):Option _l.F:=
(GH ((a.1.1,a.1.2.1,a.1.2.2.1,(),(0:Int),(0:Int),()),([]:List J),())).bind fun b=>
(bu b.1.1 b.1.2.2.1 (b.1.1.length:Int)).bind fun c=>
(cj 16 b.2.1 ([c]:List J)).bind fun d=>
 some (((),()),d,())
noncomputable def ph:aB:=aG ad Tryz.f73 i73 _l [] f73
theorem qq:ay O 73 ph:=aJ g0 Tryz.func73 (by kernel_rfl) (a6 aj4 af) (fun y=>by kernel_rfl) fun a=>by kernel_rfl
abbrev b9(n:Nat):Prop:=n<=2097152
theorem oi(c:UInt8):∀s,bC c s≠[]:=by
 intro s;induction s with
 |nil=>intro h;cases h
 |cons b r ih=>
  unfold bC;cases b==c with
  |true=>intro h;cases h
  |false=>
   simp only[cond_false];split<;>intro h<;>cases h
def sM(acc:J):List J->List J
 |x::xs=>(acc++x)::xs
 |[]=>[acc]
theorem Qm{L:List J}(h:L≠[]):sM [] L=L:=by
 cases L with
 |nil=>exact absurd rfl h
 |cons x xs=>rfl
theorem nf(c:UInt8):∀s,(bC c s).length<=s.length+1:=by
 intro s;induction s with
 |nil=>exact Nat.le_refl _
 |cons b r ih=>
  unfold bC;cases b==c with
  |true=>simpa using ih
  |false=>
   simp only[cond_false];split
   ·rename_i x xs h;rw[h] at ih;simp at ih ⊢;omega
   ·simp
theorem pq(c:UInt8):∀s x,x∈bC c s->x.length<=s.length:=by
 intro s;induction s with
 |nil=>intro x h;simp[bC] at h;simp[h]
 |cons b r ih=>
  intro x h;unfold bC at h;cases hb:b==c with
  |true=>
   rw[hb,cond_true] at h;rcases List.mem_cons.1 h with rfl|h
   ·simp
   ·have:=ih x h;simp;omega
  |false=>
   rw[hb,cond_false] at h;split at h
   ·rename_i y bg hy;rcases List.mem_cons.1 h with rfl|h
    ·have:=ih y (by rw[hy];exact List.mem_cons_self);simp;omega
    ·have:=ih x (by rw[hy];exact List.mem_cons_of_mem _ h);simp;omega
   ·simp at h;simp[h]
theorem ajs{bn:Type}(c:UInt8)(s:J)(fin:Nat×List J->bn):∀(r:J) (k:Nat) (q:Nat×List J),r=s.drop k->k<=s.length->q.1<=k->
  ∃hD,eF (fun i x (q:Nat×List J)=>some (.inl (bif(x.toNat:Int)==(c.toNat:Int) then(i+1,q.2++[(s.take i).drop q.1]) else q):Sum (Nat×List J) bn)) fin k r q=some (fin hD)/\hD.1<=s.length/\
   hD.2++[s.drop hD.1]=q.2++sM ((s.take k).drop q.1) (bC c r):=by
 intro r;induction r with
 |nil=>
  intro k q hr hk aC;have hkl:k=s.length:=by
   have:=congrArg List.length hr;simp at this;omega
  refine⟨q,rfl,by omega,?_⟩
  rw[hkl,List.take_length];simp[bC,sM]
 |cons x r ih=>
  intro k q hr hk aC;have hlt:k<s.length:=by
   have:=congrArg List.length hr;simp at this;omega
  have c9:r=s.drop (k+1):=by
   have:=congrArg List.tail hr;simpa using this
  have hx:s[k]? =some x:=by
   have:=congrArg (fun l=>l[0]?) hr
   simpa using this.symm
  simp only[eF];cases hc:((x.toNat:Int)==(c.toNat:Int)) with
  |true=>
   have KB:x=c:=by
    simp only[beq_iff_eq] at hc;exact UInt8.toNat_inj.1 (by omega)
   simp only[cond_true];obtain⟨hD,h1,h2,h3⟩:=ih (k+1) (k+1,q.2++[(s.take k).drop q.1]) c9 hlt (Nat.le_refl _);refine⟨hD,h1,h2,h3.trans ?_⟩;have e1:(s.take (k+1)).drop (k+1)=[]:=List.drop_eq_nil_of_le (by rw[List.length_take];omega)
   simp only[e1];rw[Qm (oi c r)];subst KB;have:bC x (x::r)=[]::bC x r:=by simp[bC]
   rw[this];simp[sM]
  |false=>
   have KB:(x==c)=false:=by
    cases h:x==c with
    |false=>rfl
    |true=>rw[eq_of_beq h] at hc;simp at hc
   simp only[cond_false];obtain⟨hD,h1,h2,h3⟩:=ih (k+1) q c9 hlt (by omega)
   refine⟨hD,h1,h2,h3.trans ?_⟩;have e1:(s.take (k+1)).drop q.1=(s.take k).drop q.1++[x]:=by
    rw[List.take_add_one,hx];rw[List.drop_append_of_le_length (by rw[List.length_take];omega)]
    rfl
   rw[e1];have:bC c (x::r)=sM [x] (bC c r):=by
    rw[bC,KB,cond_false];cases h:bC c r with
    |nil=>rfl
    |cons y bg=>rfl
   rw[this];cases h:bC c r with
   |nil=>exact absurd h (oi c r)
   |cons y bg=>simp[sM]
theorem t'(c:UInt8)(a)(hs:b9 a.1.1.length)(hb:a.1.2.1=(c.toNat:Int))(hm:a.1.2.2.1=((a.1.1.length+1:Nat):Int)):f73 a=some (((),()),(bC c a.1.1,())):=by
 obtain⟨⟨s,b,m,u⟩,bT⟩:=a;obtain rfl:b=(c.toNat:Int):=hb;obtain rfl:m=((s.length+1:Nat):Int):=hm;have hs:s.length<=2097152:=hs;have key:=lE zl s (fun i (q:Nat×List J)=>((s,((c.toNat:Int),(((s.length+1:Nat):Int),((),((q.1:Int),((i:Int),())))))),(q.2,())))
  (fun i x (q:Nat×List J)=>some (.inl (bif(x.toNat:Int)==(c.toNat:Int) then(i+1,q.2++[(s.take i).drop q.1]) else q))) (fun q=>(((s,((),((q.1:Int),()))),(q.2,())):aA ub))
  (fun i q=>q.1<=i/\q.2.length<=i) (0,[]) ⟨Nat.le_refl _,Nat.le_refl _⟩ (fun i x q hx c'=>?_) (fun q c'=>?_)
 ·obtain⟨hD,h1,h2,h3⟩:=ajs c s (fun q=>(((s,((),((q.1:Int),()))),(q.2,())):aA ub)) s 0 (0,[]) rfl (Nat.zero_le _) (Nat.le_refl _)
  have key:GH ((s,((c.toNat:Int),(((s.length+1:Nat):Int),((),((0:Int),((0:Int),())))))),(([]:List J),()))=some ((s,((),((hD.1:Int),()))),(hD.2,())):=key.trans h1;simp only[f73,key,Option.bind_some];rw[iI h2];have h3:hD.2++[s.drop hD.1]=bC c s:=by
   rw[h3];simp only[List.take_zero,List.drop_nil,List.nil_append];exact Qm (oi c s)
  have hl:hD.2.length<=s.length+1:=by
   have:=congrArg List.length h3;have aE:=nf c s;simp only[List.length_append,List.length_cons,List.length_nil] at this;omega
  simp only[Option.bind_some];rw[dt (by decide) (by unfold ax;simp only[List.length_cons,List.length_nil];omega)]
  simp only[Option.bind_some,h3]
 ·have hi:=cD hx;have hw:ax i:=by unfold ax;omega
  obtain⟨h0,h1⟩:=c';have hlt:decide ((q.2.length:Int)<((s.length+1:Nat):Int))=true:=cq (by omega)
  refine⟨?_,fun hD nQ=>?_⟩
  ·simp only[zl,cq hi,cond_true,hlt,bY,hx,Option.bind_some];cases hc:((x.toNat:Int)==(c.toNat:Int)) with
   |true=>
    simp only[cond_true];rw[rr h0 (by omega)]
    simp only[Option.bind_some];rw[dt (by decide) (by unfold ax;simp only[List.length_cons,List.length_nil];omega)]
    simp only[Option.bind_some,Option.map_some,b4 hw]
   |false=>simp only[cond_false,Option.map_some,b4 hw]
  ·simp only[Option.some.injEq,Sum.inl.injEq] at nQ;subst nQ;cases (x.toNat:Int)==(c.toNat:Int) with
   |true=>simp only[cond_true,List.length_append,List.length_cons,List.length_nil];omega
   |false=>simp only[cond_false];omega
 ·simp only[zl,dd,cond_false]
noncomputable def U2:aB:=Ew
theorem an7:ay O 271 U2:=adj (fn:=Tryz.f271) (by kernel_rfl) (by kernel_rfl) (by kernel_rfl) (by kernel_rfl) (by kernel_rfl)
noncomputable abbrev ar6:a7:=[(271,U2)]
theorem att:aQ O (aY ad ar6):=aV ⟨an7,⟨⟩⟩
abbrev i244:Shape:=⟨[ak 0,(1,.am (.d (.int .u8)))],[],8⟩
abbrev VP:Shape:=⟨[ag 4],[],8⟩
noncomputable def f244(a:i244.F):Option VP.F:=
(some ()).bind fun fJ=>
 some (((Lib.indexByte a.1.1 (a.1.2.1).toNat.toUInt8),()),())
noncomputable def Yb:aB:=aG ad Tryz.f244 i244 VP [] f244
theorem apI:ay O 244 Yb:=aJ att Tryz.func244 (by kernel_rfl) af (fun y=>by kernel_rfl) fun a=>by kernel_rfl
noncomputable abbrev asm:a7:=[(244,Yb)]
theorem Zr:aQ O (aY ad asm):=aV ⟨apI,⟨⟩⟩
abbrev Q':Shape:=⟨[ak 0,ak 1,ag 5],[],143⟩
abbrev QR:List aO:=[(.norm,⟨[ak 0,ak 1,ag 5,ap 16],[],143⟩)]
noncomputable def zp(y:Q'.F):Option (aA QR):=
 bif(!(y.1.2.2.1==(0:Int))) then
 some ((y.1.1,y.1.2.1,y.1.2.2.1,(y.1.2.1==y.1.1),()),())
else
 some ((y.1.1,y.1.2.1,y.1.2.2.1,true,()),())
theorem akp:aT O (an (codeOf Tryz.f209) 1 56) (aU Q' QR zp):=b8 Zr (by kernel_rfl) af fun y=>by kernel_rfl
abbrev i209:Shape:=⟨[ak 0,ak 1],[],143⟩
abbrev V9:Shape:=⟨[ag 4],[],143⟩
noncomputable def f209(a:i209.F):Option V9.F:=
(zp ((a.1.1,a.1.2.1,(a.1.2.1.length:Int),()),())).bind fun qX=>
 bif qX.1.2.2.2.1 then
 some (((0:Int),()),())
else
 bif(qX.1.2.2.1==(1:Int)) then
(aN qX.1.2.1 (0:Int)).bind fun LN=>
(f244 ((qX.1.1,(LN.toNat:Int),()),())).bind fun r8=>
 some ((r8.1.1,()),())
else
 bif(decide (qX.1.2.2.1>=(qX.1.1.length:Int))) then
 some ((((-1):Int),()),())
else
 none
noncomputable def JL:aB:=aG ad Tryz.f209 i209 V9 [] f209
theorem Vg:ay O 209 JL:=aJ Zr Tryz.func209 (by kernel_rfl) (a6 akp af) (fun y=>by kernel_rfl) fun a=>by kernel_rfl
noncomputable abbrev asj:a7:=[(209,JL)]
theorem atC:aQ O (aY ad asj):=aV ⟨Vg,⟨⟩⟩
abbrev i212:Shape:=⟨[ak 0,ak 1],[],8⟩
abbrev V7:Shape:=⟨[ag 4],[],8⟩
noncomputable def f212(a:i212.F):Option V7.F:=
(f209 ((a.1.1,a.1.2.1,()),())).bind fun b=>
 some ((b.1.1,()),())
noncomputable def BU:aB:=aG ad Tryz.f212 i212 V7 [] f212
theorem z212:ay O 212 BU:=aJ atC Tryz.func212 (by kernel_rfl) af (fun y=>by kernel_rfl) fun a=>by kernel_rfl
noncomputable abbrev JA:Ctx:=aY ad [(212,BU)]
noncomputable def BQ:Code:=codeOf Tryz.f266
noncomputable def nG:Code:=cN (an BQ 1 12)
noncomputable def A8(p j:Nat):Oper:=(opsOf (an nG 24 p)).getD j default
noncomputable def IA(j:Nat):Oper:=(opsOf (an BQ 1 7)).getD j default
theorem amZ(c:UInt8)(r:J):f212 ((r,([c],())),())=some ((Lib.indexByte r c,()),()):=by
 have h0:aN ([c]:J) (0:Int)=some c:=rfl;have h1:((([c]:J).length:Int)==0)=false:=rfl;have h2:((([c]:J).length:Int)==1)=true:=rfl;have h3:((c.toNat:Int)).toNat.toUInt8=c:=by simp
 simp only[f212,f209,zp,f244,h0,h1,h2,h3,Bool.not_false,cond_true,cond_false,Option.bind_some,Option.bind];by_cases h:(([c]:J)==r)=true
 ·have:r=[c]:=(by simpa using h:[c]=r).symm
  subst this;simp[Lib.indexByte]<;>rfl
 ·simp[h]<;>rfl
theorem ao7(c:UInt8)(r:J):exec (gB JA []) (an nG 24 96) 96 (mN 52 c r) (BG (gB JA []) 52 7 8 (an nG 24 194) (an nG 24 390) 194 390)=
 (f212 ((r,([c],())),())).bind fun q=>bif decide (q.1.1<0) then some (.inl (kB 52 c r)) else(bu r 0 (IntKind.i64.wrap (q.1.1+0))).bind fun x=>some (.inr ((q.1.1,x),kB 52 c r)):=by kernel_rfl
theorem UJ:uN O 266:=
 alg (C:=gB JA []) (aV ⟨z212,⟨⟩⟩) (fn:=Tryz.f266) (k:=52) (A:=an BQ 1 2) (r5:=an nG 24 96) (c6:=an nG 24 194) (r7:=an nG 24 390) (r9:=an nG 24 783)
  (o0:=A8 1564 0) (o1:=A8 1564 1) (o2:=A8 1564 2) (o3:=A8 1564 3) (q0:=IA 0) (q1:=IA 1) (q2:=IA 2) (pA:=2) (p5:=96) (p6:=194) (p7:=390) (p9:=783) (t7:=7) (t8:=8) (a1:=39) (a2:=40)
  (t41:=41) (t42:=42) (u1:=49) (u2:=50) (ty:=#[9]) (Cf:=#[9])
  {Xs:=(by kernel_rfl),nt:=(by kernel_rfl),cJ:=(by decide),e5:=(by kernel_rfl),aaA:=enters_of Tryz.func266 (by kernel_rfl) rfl,body:=⟨sk (an nG 24 1564),sk (an BQ 1 7),(by kernel_rfl)⟩,wB:=(by kernel_rfl),wr:=(by kernel_rfl),
   aV:=⟨(by kernel_rfl),(by kernel_rfl),(by kernel_rfl),(by kernel_rfl),(by kernel_rfl),(by kernel_rfl),(by kernel_rfl)⟩,abA:=(by kernel_rfl),abz:=(by kernel_rfl),d2:=(by kernel_rfl),I_:=(by decide),c2:=(by kernel_rfl),d5:=(by kernel_rfl),
   ki:=⟨kN (by kernel_rfl) af,kN (by kernel_rfl) af,kN (by kernel_rfl) af,kN (by kernel_rfl) af,kN (by kernel_rfl) af⟩,
   dH:=fun c r=>(by kernel_rfl),hB:=fun c r=>(ao7 c r).trans (by rw[amZ];rfl),bh:=fun c r i x v=>(by kernel_rfl),h3:=fun c r b=>(by kernel_rfl),aax:=(by kernel_rfl),wI:=fun c r i=>(by kernel_rfl),C4:=fun c r v=>(by kernel_rfl)}
  (by kernel_rfl) (by decide)
noncomputable abbrev asP:a7:=[(115,BX)]
theorem J9:aQ O (aY ad asP):=aV ⟨IS,⟨⟩⟩
abbrev OK:Shape:=⟨[au 2 2 0,au 3 3 0,au 4 4 0,ag 6,ap 7],[bm 5000128 .i64 2 0,ar 2 [.own 5000128],ar 3 [lz],bm 5000256 .i64 4 0,ar 4 [.own 5000256]],28⟩
abbrev Oo:List aO:=[(.norm,⟨[au 2 2 0,au 3 3 0,au 4 4 0,ag 6,ap 22],[bm 5000128 .i64 2 0,ar 2 [.own 5000128],ar 3 [lz],bm 5000256 .i64 4 0,ar 4 [.own 5000256]],28⟩)]
noncomputable def EA(y:OK.F):Option (aA Oo):=
 bif(!(!y.1.2.2.2.2.1)) then
 some (((),(),(),y.1.2.2.2.1,((y.2.2.2.2.1.length:Int)==(4:Int)),()),y.2.1,((),()),(y.2.2.2.1.1,()),y.2.2.2.2.1,((),()),())
else
 some (((),(),(),y.1.2.2.2.1,true,()),y.2.1,((),()),(y.2.2.2.1.1,()),y.2.2.2.2.1,((),()),())
theorem agu:aT O (an (jK (an (codeOf Tryz.f151) 1 58)) 117 1876) (aU OK Oo EA):=b8 J9 (by kernel_rfl) af fun y=>by kernel_rfl
abbrev yW:Shape:=⟨[au 2 2 0,au 3 3 0,au 4 4 0],[bm 5000128 .i64 2 0,ar 2 [.own 5000128],ar 3 [lz],bm 5000256 .i64 4 0,ar 4 [.own 5000256]],28⟩
abbrev Gg:List aO:=[(.norm,⟨[au 2 2 0,au 3 3 0,au 4 4 0],[bm 5000128 .i64 2 0,ar 2 [.own 5000128],ar 3 [lz],bm 5000256 .i64 4 0,ar 4 [.own 5000256]],28⟩),(.ret,⟨[au 2 2 0,au 3 3 0],[bm 5000128 .i64 2 0,ar 2 [.own 5000128],ar 3 [lz]],28⟩)]
noncomputable def rL(x:J)(y:yW.F):bD yW Gg:=
(f115 ((x,(999:Int),()),())).bind fun a=>
(EA (((),(),(),a.1.1,a.1.2.1,()),y.2.1,((),()),(y.2.2.2.1.1,()),y.2.2.2.2.1,((),()),())).bind fun b=>
 bif b.1.2.2.2.2.1 then
 some (.inr (.inr (((),(),()),([]:List Int),((),()),(false,()),())))
else
(cj 8 b.2.2.2.2.1 ([b.1.2.2.2.1]:List Int)).bind fun c=>
 some (.inl (((),(),(),()),b.2.1,((),()),(b.2.2.2.1.1,()),c,((),()),()))
noncomputable def ul(y:yW.F):Option (aA Gg):=
 some (.inl (((),(),(),()),y.2.1,((),()),(y.2.2.2.1.1,()),y.2.2.2.2.1,((),()),()))
theorem akL:aT O (an (codeOf Tryz.f151) 1 58) (rs 266 9 yW Gg rL ul):=M_ (eH:=10) J9 UJ (by kernel_rfl) (a6 agu af) (by kernel_rfl) (fun x y=>by kernel_rfl) fun y=>by kernel_rfl
abbrev i151:Shape:=⟨[ak 0],[],28⟩
abbrev WL:Shape:=⟨[au 2 2 0,au 3 3 0],[bm 5000128 .i64 2 0,ar 2 [.own 5000128],ar 3 [lz]],28⟩
noncomputable def f151(a:i151.F):Option WL.F:=
(bif Nat.ble a.1.1.length kc then h7 rL ul (bC (46:UInt8) a.1.1) (((),(),(),()),([]:List Int),((),()),(false,()),([]:List Int),((),()),()) else none).bind fun b=>
(match b with
|.inl c=>
 some (((),(),()),c.2.2.2.2.1,((),()),(true,()),())
|.inr d=>
 some (((),(),()),d.2.1,((),()),(d.2.2.2.1.1,()),()))
noncomputable def JU:aB:=aG ad Tryz.f151 i151 WL [] f151
theorem Vk:ay O 151 JU:=aJ J9 Tryz.func151 (by kernel_rfl) (a6 akL af) (fun y=>by kernel_rfl) fun a=>by kernel_rfl
noncomputable abbrev atm:a7:=[(151,JU)]
theorem atZ:aQ O (aY ad atm):=aV ⟨Vk,⟨⟩⟩
abbrev i100:Shape:=⟨[ak 0],[],11⟩
abbrev Xm:Shape:=⟨[ap 2],[],11⟩
noncomputable def f100(a:i100.F):Option Xm.F:=
(f151 ((a.1.1,()),())).bind fun b=>
 some ((b.2.2.2.1.1,()),())
noncomputable def BY:aB:=aG ad Tryz.f100 i100 Xm [] f100
theorem IT:ay O 100 BY:=aJ atZ Tryz.func100 (by kernel_rfl) af (fun y=>by kernel_rfl) fun a=>by kernel_rfl
noncomputable abbrev atl:a7:=[(99,Lr),(100,BY)]
theorem ZO:aQ O (aY ad atl):=aV ⟨ZS,IT,⟨⟩⟩
abbrev P5:Shape:=⟨[au 1 1 0,ag 8],[ar 1 [ah,aX,ah]],21⟩
abbrev PN:List aO:=[(.norm,⟨[au 1 1 0,ap 14],[ar 1 [ah,aX,ah]],21⟩)]
noncomputable def FH(y:P5.F):Option (aA PN):=
 bif(y.1.2.1==(1:Int)) then
 some (((),(y.1.2.1==(1:Int)),()),(y.2.1.1,y.2.1.2.1,y.2.1.2.2.1,()),())
else
 bif(y.1.2.1==(2:Int)) then
 some (((),(y.1.2.1==(2:Int)),()),(y.2.1.1,y.2.1.2.1,y.2.1.2.2.1,()),())
else
 some (((),(y.1.2.1==(3:Int)),()),(y.2.1.1,y.2.1.2.1,y.2.1.2.2.1,()),())
theorem aiH:aT O (an (codeOf Tryz.f102) 1 470) (aU P5 PN FH):=b8 ZO (by kernel_rfl) af fun y=>by kernel_rfl
abbrev i102:Shape:=⟨[b5 0 [ah,aX,ah]],[],21⟩
abbrev Xl:Shape:=⟨[ap 2],[],21⟩
noncomputable def f102(a:i102.F):Option Xl.F:=
(f99 ((a.1.1.1,()),())).bind fun b=>
 bif(!b.1.1) then
 some ((false,()),())
else
 bif(a.1.1.2.1==(0:Int)) then
 some (((a.1.1.2.2.1==([]:J)),()),())
else
(FH (((),a.1.1.2.1,()),(a.1.1.1,a.1.1.2.1,a.1.1.2.2.1,()),())).bind fun c=>
 bif c.1.2.1 then
(f100 ((c.2.1.2.2.1,()),())).bind fun d=>
 some ((d.1.1,()),())
else
 some ((false,()),())
noncomputable def vw:aB:=aG ad Tryz.f102 i102 Xl [] f102
theorem Bv:ay O 102 vw:=aJ ZO Tryz.func102 (by kernel_rfl) (a6 aiH af) (fun y=>by kernel_rfl) fun a=>by kernel_rfl
noncomputable abbrev asW:a7:=[(73,ph),(74,CN),(75,n4)]
theorem ZC:aQ O (aY ad asW):=aV ⟨qq,Kd,z75,⟨⟩⟩
abbrev x3:Shape:=⟨[a_ 4 3000256,a_ 5 3000320,ag 6],[a8 3000256 .str 4 0,a8 3000320 .i64 5 0],37⟩
abbrev pD:List aO:=[(.ret,⟨[a_ 2 3000128,ap 3],[a8 3000128 .i64 2 0],37⟩),(.exit 0,⟨[a_ 4 3000256,a_ 5 3000320],[a8 3000256 .str 4 0,a8 3000320 .i64 5 0],37⟩)]
noncomputable def yp(y:x3.F):bD x3 pD:=
 bif(decide (y.1.2.2.1<(y.2.1.length:Int))) then
(bk y.2.1.length y.1.2.2.1).bind fun a=>
(y.2.1[a]?).bind fun b=>
(f74 ((b,()),())).bind fun c=>
(f75 ((c.1.1,(0:Int),(999:Int),()),())).bind fun d=>
 bif(!d.1.1) then
 some (.inr (.inl (((),false,()),y.2.2.1,())))
else
(cj 8 y.2.2.1 ([c.1.1]:List Int)).bind fun e=>
 some (.inl (((),(),(IntKind.i64.wrap (y.1.2.2.1+(1:Int))),()),y.2.1,e,()))
else
 some (.inr (.inr (((),(),()),y.2.1,y.2.2.1,())))
noncomputable def Fs:x3.F->Option (aA pD):=bo yp
theorem aiA:aT O (an (codeOf Tryz.f140) 1 122) (aU x3 pD Fs):=bE ZC (by kernel_rfl) af fun y=>by kernel_rfl
abbrev i140:Shape:=⟨[ak 0],[],37⟩
abbrev WV:Shape:=⟨[a_ 2 3000128,ap 3],[a8 3000128 .i64 2 0],37⟩
noncomputable def f140(a:i140.F):Option WV.F:=
(f73 ((a.1.1,(46:Int),(IntKind.i64.wrap ((a.1.1.length:Int)+(1:Int))),()),())).bind fun b=>
(Fs (((),(),(0:Int),()),b.2.1,([]:List Int),())).bind fun c=>
(match c with
|.inl d=>
 some (((),d.1.2.1,()),d.2.1,())
|.inr e=>
 some (((),(decide ((e.2.1.length:Int)<=(4:Int))),()),e.2.2.1,()))
noncomputable def JY:aB:=aG ad Tryz.f140 i140 WV [] f140
theorem Vm:ay O 140 JY:=aJ ZC Tryz.func140 (by kernel_rfl) (a6 aiA af) (fun y=>by kernel_rfl) fun a=>by kernel_rfl
noncomputable abbrev axp:a7:=[(140,JY)]
theorem ax5:aQ O (aY ad axp):=aV ⟨Vm,⟨⟩⟩
abbrev i88:Shape:=⟨[ak 0],[],11⟩
abbrev _c:Shape:=⟨[ap 2],[],11⟩
noncomputable def f88(a:i88.F):Option _c.F:=
(f140 ((a.1.1,()),())).bind fun b=>
 some ((b.1.2.1,()),())
noncomputable def Ls:aB:=aG ad Tryz.f88 i88 _c [] f88
theorem ZT:ay O 88 Ls:=aJ ax5 Tryz.func88 (by kernel_rfl) af (fun y=>by kernel_rfl) fun a=>by kernel_rfl
noncomputable abbrev ast:a7:=[(75,n4),(87,Lt),(88,Ls)]
theorem atF:aQ O (aY ad ast):=aV ⟨z75,z87,ZT,⟨⟩⟩
abbrev i192:Shape:=⟨[b5 0 [ah,aX,ah]],[],26⟩
abbrev Wh:Shape:=⟨[ap 2],[],26⟩
noncomputable def f192(a:i192.F):Option Wh.F:=
(f87 ((a.1.1.1,()),())).bind fun b=>
 bif b.1.1 then
 bif(a.1.1.2.1==(0:Int)) then
 bif(!(a.1.1.2.2.1==([]:J))) then
(f75 ((a.1.1.2.1,(1:Int),(3:Int),()),())).bind fun c=>
 bif c.1.1 then
(f88 ((a.1.1.2.2.1,()),())).bind fun d=>
 some ((d.1.1,()),())
else
 some ((false,()),())
else
 some ((true,()),())
else
(f75 ((a.1.1.2.1,(1:Int),(3:Int),()),())).bind fun e=>
 bif e.1.1 then
(f88 ((a.1.1.2.2.1,()),())).bind fun f=>
 some ((f.1.1,()),())
else
 some ((false,()),())
else
 some ((false,()),())
noncomputable def JP:aB:=aG ad Tryz.f192 i192 Wh [] f192
theorem Vi:ay O 192 JP:=aJ atF Tryz.func192 (by kernel_rfl) af (fun y=>by kernel_rfl) fun a=>by kernel_rfl
theorem Nt:∀(r:J) (n:Int),r.all cK=true->0<=n->0<=r.foldl dT n:=by
 intro r;induction r with
 |nil=>intro n _ h;exact h
 |cons b r ih=>
  intro n Z h;simp only[List.all_cons,Bool.and_eq_true] at Z;have hb:=ig Z.1;exact ih _ Z.2 (by unfold dT;omega)
def hL(s:J):List J:=bC 46 s
def dY(s:J):Bool:=(hL s).all e_&&decide ((hL s).length<=4)
def gY(s:J):List Int:=(hL s).map c5
theorem adY(x:J):within (bif x.all cK&&decide (x.length<=6)&&!(x==[])&&!il x then c5 x else-1) 0 999=e_ x:=by
 unfold e_ within;cases h1:x.all cK with
 |false=>simp
 |true=>
  have:=Nt x 0 h1 (Int.le_refl _);have hv:decide ((0:Int)<=c5 x)=true:=by simp only[decide_eq_true_eq];exact this
  cases h2:decide (x.length<=6)<;>cases h3:(x==[])<;>cases aE:il x<;>simp[hv]
theorem DX(a)(hs:b9 a.1.1.length):∃out,f140 a=some (((),(dY a.1.1,())),(out,()))/\(dY a.1.1=true->out=gY a.1.1):=by
 obtain⟨⟨s,u⟩,bT⟩:=a;have hs:s.length<=2097152:=hs;have hlen:=nf 46 s;have gH:f73 ((s,((46:Int),((IntKind.i64.wrap ((s.length:Int)+(1:Int))),()))),())=some (((),()),(hL s,())):=
  t' 46 _ hs rfl (b4 (by unfold ax;omega))
 have key:=lE yp (hL s) (fun i (out:List Int)=>(((),((),((i:Int),()))),(hL s,(out,()))))
  (fun i x out=>some (bif e_ x then .inl (out++[c5 x]) else .inr ((.inl (((),(false,())),(out,()))):aA pD))) (fun out=>((.inr (((),((),())),(hL s,(out,())))):aA pD))
  (fun i out=>out.length<=i) [] (Nat.le_refl _) (fun i x out hx c'=>?_) (fun out _=>?_)
 ·have fold:∀(r:List J) (k:Nat) (out:List Int),eF (fun i x out=>some (bif e_ x then .inl (out++[c5 x]) else .inr ((.inl (((),(false,())),(out,()))):aA pD))) (fun out=>((.inr (((),((),())),(hL s,(out,())))):aA pD)) k r out=
    some (bif r.all e_ then(.inr (((),((),())),(hL s,(out++r.map c5,())))) else(.inl (((),(false,())),(out++(r.takeWhile e_).map c5,())))):=by
   intro r;induction r with
   |nil=>intro k out;simp[eF]
   |cons x r ih=>
    intro k out;simp only[eF,List.all_cons];cases hn:e_ x with
    |false=>simp[hn]
    |true=>simp only[cond_true,Bool.true_and];rw[ih];simp[hn,List.append_assoc]
  have key:Fs (((),((),((0:Int),()))),(hL s,(([]:List Int),())))=_:=key.trans (fold (hL s) 0 []);simp only[f140,gH,Option.bind_some,key,List.nil_append];unfold dY;cases mH:(hL s).all e_ with
  |false=>exact⟨_,rfl,fun h=>by cases h⟩
  |true=>
   simp only[cond_true,Bool.true_and];have:decide (((hL s).length:Int)<=4)=decide ((hL s).length<=4):=by by_cases h:(hL s).length<=4<;>simp[h]<;>omega
   rw[this];exact⟨_,rfl,fun _=>rfl⟩
 ·have hi:=cD hx;have uW:(hL s).length<=s.length+1:=hlen;have hw:ax i:=by unfold ax;omega
  have hxl:x.length<=s.length:=pq 46 s x (List.mem_of_getElem? hx);refine⟨?_,fun aM aj=>?_⟩
  ·simp only[yp,cq hi,cond_true,fO hi,hx,Option.bind_some];rw[ajS _ (show ax x.length by unfold ax;omega)]
   simp only[Option.bind_some,rQ,adY];cases hn:e_ x with
   |false=>rfl
   |true=>
    have hv:(bif x.all cK&&decide (x.length<=6)&&!(x==[])&&!il x then c5 x else-1)=c5 x:=by
     unfold e_ at hn;simp only[Bool.and_eq_true] at hn;obtain⟨⟨⟨⟨h1,h2⟩,h3⟩,aE⟩,bi⟩:=hn;rw[h1,aE,h2,h3];rfl
    simp only[Bool.not_true,cond_false,hv,cond_true];rw[dt (by decide) (by unfold ax;simp only[List.length_cons,List.length_nil];omega)]
    simp only[Option.bind_some,b4 hw,Option.map_some]
  ·simp only[Option.some.injEq] at aj;cases hn:e_ x with
   |false=>rw[hn] at aj;cases aj
   |true=>
    rw[hn] at aj;simp only[cond_true,Sum.inl.injEq] at aj;subst aj;simp only[List.length_append,List.length_cons,List.length_nil];omega
 ·simp only[yp,dd,cond_false]
theorem MV(a)(hs:b9 a.1.1.length):f88 a=some ((dY a.1.1,()),()):=by
 obtain⟨out,h,_⟩:=DX ((a.1.1,()),()) hs;simp only[f88,h,Option.bind_some]
theorem Dj(a)(hs:b9 a.1.1.length):f151 a=some (((),((),())),((bif dY a.1.1 then gY a.1.1 else []),(((),()),((dY a.1.1,()),())))):=by
 obtain⟨⟨s,u⟩,bT⟩:=a;have hs:s.length<=2097152:=hs;have Jt:Nat.ble s.length kc=true:=Nat.ble_eq_true_of_le (by unfold kc;omega)
 have fold:∀(r:List J) (out:List Int),(∀x,x∈r->x.length<=s.length)->out.length<=4->
   h7 rL ul r (((),((),((),()))),(([]:List Int),(((),()),((false,()),(out,(((),()),()))))))=
    some (bif r.all e_&&decide (out.length+r.length<=4) then(.inl (((),((),((),()))),(([]:List Int),(((),()),((false,()),(out++r.map c5,(((),()),()))))))) else(.inr (((),((),())),(([]:List Int),(((),()),((false,()),())))))):=by
  intro r;induction r with
  |nil=>
   intro out _ aL;have:decide (out.length+0<=4)=true:=by simpa using aL
   simp only[h7,ul,List.all_nil,List.length_nil,this,Bool.and_self,cond_true,List.map_nil,List.append_nil]
  |cons x r ih=>
   intro out hr aL;have hx:=hr x List.mem_cons_self;have are:=ahr ((x,((999:Int),())),()) (show ax x.length by unfold ax;omega) rfl
   have step:rL x (((),((),((),()))),(([]:List Int),(((),()),((false,()),(out,(((),()),()))))))=
     some (bif e_ x&&decide (out.length+1<=4) then .inl (((),((),((),()))),(([]:List Int),(((),()),((false,()),(out++[c5 x],(((),()),())))))) else .inr (.inr (((),((),())),(([]:List Int),(((),()),((false,()),())))))):=by
    simp only[rL,are,Option.bind_some,EA,Bool.not_not];have aE:((out.length:Int)==4)=!decide (out.length+1<=4):=by
     by_cases h:out.length=4
     ·rw[h];rfl
     ·have bi:decide (out.length+1<=4)=true:=by simp only[decide_eq_true_eq];omega
      rw[bi];simp only[beq_eq_false_iff_ne,ne_eq,Bool.not_true];omega
    rw[aE];cases hn:e_ x with
    |false=>rfl
    |true=>
     simp only[cond_true,Option.bind_some,Bool.true_and];cases aC:decide (out.length+1<=4) with
     |false=>rfl
     |true=>
      simp only[Bool.not_true,cond_false,cond_true];rw[dt (by decide) (by unfold ax;simp only[List.length_cons,List.length_nil];omega)]
      rfl
   rw[h7,step,List.all_cons];cases hn:e_ x with
   |false=>rfl
   |true=>
    simp only[Bool.true_and];cases aC:decide (out.length+1<=4) with
    |false=>
     have:decide (out.length+(x::r).length<=4)=false:=by simp only[decide_eq_false_iff_not,List.length_cons] at aC ⊢;omega
     rw[this];simp
    |true=>
     simp only[cond_true];rw[ih (out++[c5 x]) (fun y hy=>hr y (List.mem_cons_of_mem _ hy)) (by simp only[List.length_append,List.length_cons,List.length_nil];simpa using aC)]
     have e1:(out++[c5 x]).length+r.length=out.length+(x::r).length:=by simp only[List.length_append,List.length_cons,List.length_nil];omega
     rw[e1,List.map_cons,List.append_assoc];rfl
 have key:=fold (bC (46:UInt8) s) [] (fun x hx=>pq 46 s x hx) (Nat.zero_le _)
 have Jc:h7 rL ul (bC (46:UInt8) s) (((),((),((),()))),(([]:List Int),(((),()),((false,()),(([]:List Int),(((),()),()))))))=
    some (bif dY s then(.inl (((),((),((),()))),(([]:List Int),(((),()),((false,()),(gY s,(((),()),()))))))) else(.inr (((),((),())),(([]:List Int),(((),()),((false,()),())))))):=by
  rw[key];unfold dY gY hL;simp only[List.length_nil,Nat.zero_add,List.nil_append]
 simp only[f151,Jt,cond_true,Jc,Option.bind_some];cases dY s<;>rfl
theorem Dm(a)(hs:b9 a.1.1.length):f100 a=some ((dY a.1.1,()),()):=by
 simp only[f100,Dj ((a.1.1,()),()) hs,Option.bind_some]
def dR(n:bQ):Bool:=hZ n.name&&(n.kind==0&&(n.bf==[])||within n.kind 1 3&&dY n.bf)
abbrev wv(n:bQ):Prop:=b9 n.name.length/\b9 n.bf.length
theorem ahJ(a)(h1:b9 a.1.1.1.length)(h2:b9 a.1.1.2.2.1.length):f192 a=some ((dR ⟨a.1.1.1,a.1.1.2.1,a.1.1.2.2.1⟩,()),()):=by
 obtain⟨⟨⟨n,k,v,u⟩,bT⟩,mL⟩:=a;have h1:n.length<=2097152:=h1;have h2:v.length<=2097152:=h2;have e1:=Pr ((n,()),()) (show ax n.length by unfold ax;omega)
 have e2:=MV ((v,()),()) h2;simp only[f192,e1,e2,rQ,Option.bind_some,dR];cases hZ n with
 |false=>rfl
 |true=>
  cases hk:(k==0) with
  |false=>
   simp only[cond_true,cond_false];cases within k 1 3<;>cases dY v<;>rfl
  |true=>
   have:within k 1 3=false:=by
    have:k=0:=by simpa using hk
    subst this;decide
   rw[this];cases (v==[])<;>rfl
theorem aft{k:Int}(ly:¬k=0)(aD:¬k=1)(aF:¬k=2)(bI:¬k=3):within k 1 3=false:=by
 unfold within;cases h:(decide (1<=k)&&decide (k<=3)) with
 |false=>rfl
 |true=>simp only[Bool.and_eq_true,decide_eq_true_eq] at h;omega
theorem xi(a)(h1:b9 a.1.1.1.length)(h2:b9 a.1.1.2.2.1.length):f102 a=some ((dR ⟨a.1.1.1,a.1.1.2.1,a.1.1.2.2.1⟩,()),()):=by
 obtain⟨⟨⟨n,k,v,u⟩,bT⟩,mL⟩:=a;have h1:n.length<=2097152:=h1;have h2:v.length<=2097152:=h2;have e1:=MF ((n,()),()) (show ax n.length by unfold ax;omega)
 have e2:=Dm ((v,()),()) h2;simp only[f102,e1,e2,Option.bind_some,dR,FH];cases hZ n with
 |false=>rfl
 |true=>
  simp only[Bool.not_true,cond_false,Bool.true_and];by_cases ly:k=0
  ·subst ly;cases (v==[])<;>rfl
  ·have o':(k==0)=false:=by simpa using ly
   rw[o'];by_cases aD:k=1
   ·subst aD;cases hv:dY v<;>simp[within,e2,hv]
   ·have qG:(k==1)=false:=by simpa using aD
    rw[qG];by_cases aF:k=2
    ·subst aF;cases hv:dY v<;>simp[within,e2,hv]
    ·have hk2:(k==2)=false:=by simpa using aF
     rw[hk2];by_cases bI:k=3
     ·subst bI;cases hv:dY v<;>simp[within,e2,hv]
     ·have av2:(k==3)=false:=by simpa using bI
      rw[av2];rw[aft ly aD aF bI];rfl
noncomputable abbrev anO:a7:=[(102,vw)]
theorem Ui:aQ O (aY ad anO):=aV ⟨Bv,⟨⟩⟩
abbrev xz:Shape:=⟨[(1,.am (.fn 102 [])),aK 7 .need,ag 8,ag 9],[],18⟩
abbrev D_:List aO:=[(.ret,⟨[ap 4],[],18⟩),(.exit 0,⟨[],[],18⟩)]
noncomputable def xM(y:xz.F):bD xz D_:=
 bif(decide (y.1.2.2.2.1<y.1.2.2.1)) then
(aN y.1.2.1 y.1.2.2.2.1).bind fun a=>
(f102 (((a.name,a.kind,a.bf,()),()),())).bind fun b=>
 bif(!b.1.1) then
 some (.inr (.inl ((false,()),())))
else
 some (.inl (((),y.1.2.1,y.1.2.2.1,(IntKind.i64.wrap (y.1.2.2.2.1+(1:Int))),()),()))
else
 some (.inr (.inr ((),())))
noncomputable def Et:xz.F->Option (aA D_):=bo xM
theorem agG:aT O (an (codeOf Tryz.f101) 1 26) (aU xz D_ Et):=bE Ui (by kernel_rfl) af fun y=>by kernel_rfl
abbrev TK:Shape:=⟨[aK 0 .need,(1,.am (.fn 102 []))],[],18⟩
abbrev Te:Shape:=⟨[ap 4],[],18⟩
noncomputable def AV(a:TK.F):Option Te.F:=
(Et (((),a.1.1,(a.1.1.length:Int),(0:Int),()),())).bind fun b=>
(match b with
|.inl c=>
 some ((c.1.1,()),())
|.inr d=>
 some ((true,()),()))
noncomputable def Ud:aB:=aG ad Tryz.f101 TK Te [] AV
theorem al8:ay O 101 Ud:=aJ Ui Tryz.func101 (by kernel_rfl) (a6 agG af) (fun y=>by kernel_rfl) fun a=>by kernel_rfl
abbrev i104:Shape:=⟨[b5 0 [ah,aX,ah]],[],5⟩
abbrev Xk:Shape:=⟨[ak 2],[],5⟩
noncomputable def f104(a:i104.F):Option Xk.F:=
 some ((a.1.1.1,()),())
noncomputable def Zm:aB:=aG ad Tryz.f104 i104 Xk [] f104
theorem aqu:ay O 104 Zm:=aJ g0 Tryz.func104 (by kernel_rfl) af (fun y=>by kernel_rfl) fun a=>by kernel_rfl
abbrev i149:Shape:=⟨[aK 0 .str],[],8⟩
abbrev I8:Shape:=⟨[a_ 2 3000128],[a8 3000128 .str 2 0],8⟩
noncomputable def f149(a:i149.F):Option I8.F:=
 py (t:=.str) a.1.1 (some (((),()),([]:List J),())) ((cj 16 ([]:List J) a.1.1).bind fun b=>
 some (((),()),b,()))
noncomputable def YY:aB:=aG ad Tryz.f149 i149 I8 [] f149
theorem aqg:ay O 149 YY:=aJ g0 Tryz.func149 (by kernel_rfl) af (fun y=>by kernel_rfl) fun a=>by kernel_rfl
abbrev yK:Shape:=⟨[aK 0 .str,ak 1,ag 7,ag 8],[],19⟩
abbrev rC:List aO:=[(.ret,⟨[ag 4],[],19⟩),(.exit 0,⟨[],[],19⟩)]
noncomputable def zq(y:yK.F):bD yK rC:=
 bif(decide (y.1.2.2.2.1<y.1.2.2.1)) then
(aN y.1.1 y.1.2.2.2.1).bind fun a=>
 bif(y.1.2.1==a) then
 some (.inr (.inl ((y.1.2.2.2.1,()),())))
else
 some (.inl ((y.1.1,y.1.2.1,y.1.2.2.1,(IntKind.i64.wrap (y.1.2.2.2.1+(1:Int))),()),()))
else
 some (.inr (.inr ((),())))
noncomputable def GP:yK.F->Option (aA rC):=bo zq
theorem aks:aT O (an (codeOf Tryz.f197) 1 26) (aU yK rC GP):=bE g0 (by kernel_rfl) af fun y=>by kernel_rfl
abbrev i197:Shape:=⟨[aK 0 .str,ak 1],[],19⟩
abbrev I6:Shape:=⟨[ag 4],[],19⟩
noncomputable def f197(a:i197.F):Option I6.F:=
(GP ((a.1.1,a.1.2.1,(a.1.1.length:Int),(0:Int),()),())).bind fun b=>
(match b with
|.inl c=>
 some ((c.1.1,()),())
|.inr d=>
 some ((((-1):Int),()),()))
noncomputable def Yu:aB:=aG ad Tryz.f197 i197 I6 [] f197
theorem apV:ay O 197 Yu:=aJ g0 Tryz.func197 (by kernel_rfl) (a6 aks af) (fun y=>by kernel_rfl) fun a=>by kernel_rfl
noncomputable abbrev asQ:a7:=[(197,Yu)]
theorem atO:aQ O (aY ad asQ):=aV ⟨apV,⟨⟩⟩
abbrev i150:Shape:=⟨[aK 0 .str,ak 1],[],9⟩
abbrev WM:Shape:=⟨[ap 4],[],9⟩
noncomputable def f150(a:i150.F):Option WM.F:=
(f197 ((a.1.1,a.1.2.1,()),())).bind fun b=>
 some (((decide (b.1.1>=(0:Int))),()),())
noncomputable def YX:aB:=aG ad Tryz.f150 i150 WM [] f150
theorem aqf:ay O 150 YX:=aJ atO Tryz.func150 (by kernel_rfl) af (fun y=>by kernel_rfl) fun a=>by kernel_rfl
noncomputable abbrev anN:a7:=[(104,Zm),(149,YY),(150,YX)]
theorem Uh:aQ O (aY ad anN):=aV ⟨aqu,aqg,aqf,⟨⟩⟩
abbrev xy:Shape:=⟨[(1,.am (.fn 104 [])),a_ 7 3000448,aK 12 .need,ag 13,ag 14],[a8 3000448 .str 7 0],30⟩
abbrev ri:List aO:=[(.ret,⟨[ap 6],[],30⟩),(.exit 0,⟨[],[],30⟩)]
noncomputable def xL(y:xy.F):bD xy ri:=
 bif(decide (y.1.2.2.2.2.1<y.1.2.2.2.1)) then
(aN y.1.2.2.1 y.1.2.2.2.2.1).bind fun a=>
(f104 (((a.name,a.kind,a.bf,()),()),())).bind fun b=>
(f150 ((y.2.1,b.1.1,()),())).bind fun c=>
 bif c.1.1 then
 some (.inr (.inl ((true,()),())))
else
(f104 (((a.name,a.kind,a.bf,()),()),())).bind fun d=>
(cj 16 y.2.1 ([d.1.1]:List J)).bind fun e=>
 some (.inl (((),(),y.1.2.2.1,y.1.2.2.2.1,(IntKind.i64.wrap (y.1.2.2.2.2.1+(1:Int))),()),e,()))
else
 some (.inr (.inr ((),())))
noncomputable def Es:xy.F->Option (aA ri):=bo xL
theorem agF:aT O (an (codeOf Tryz.f103) 1 58) (aU xy ri Es):=bE Uh (by kernel_rfl) af fun y=>by kernel_rfl
abbrev TJ:Shape:=⟨[aK 0 .need,(1,.am (.fn 104 [])),aK 2 .str],[],30⟩
abbrev Td:Shape:=⟨[ap 6],[],30⟩
noncomputable def AU(a:TJ.F):Option Td.F:=
(f149 ((a.1.2.2.1,()),())).bind fun b=>
(Es (((),(),a.1.1,(a.1.1.length:Int),(0:Int),()),b.2.1,())).bind fun c=>
(match c with
|.inl d=>
 some ((d.1.1,()),())
|.inr e=>
 some ((false,()),()))
noncomputable def Uc:aB:=aG ad Tryz.f103 TJ Td [] AU
theorem al7:ay O 103 Uc:=aJ Uh Tryz.func103 (by kernel_rfl) (a6 agF af) (fun y=>by kernel_rfl) fun a=>by kernel_rfl
noncomputable abbrev asV:a7:=[(192,JP)]
theorem ZB:aQ O (aY ad asV):=aV ⟨Vi,⟨⟩⟩
abbrev y0:Shape:=⟨[aK 0 .need,ag 3],[],19⟩
abbrev Gk:List aO:=[(.ret,⟨[ap 2],[],19⟩),(.exit 0,⟨[aK 0 .need],[],19⟩)]
noncomputable def zE(y:y0.F):bD y0 Gk:=
 bif(decide (y.1.2.1<(y.1.1.length:Int))) then
(aN y.1.1 y.1.2.1).bind fun a=>
(f192 (((a.name,a.kind,a.bf,()),()),())).bind fun b=>
 bif(!b.1.1) then
 some (.inr (.inl ((false,()),())))
else
 some (.inl ((y.1.1,(IntKind.i64.wrap (y.1.2.1+(1:Int))),()),()))
else
 some (.inr (.inr ((y.1.1,()),())))
noncomputable def G2:y0.F->Option (aA Gk):=bo zE
theorem akP:aT O (an (codeOf Tryz.f141) 1 26) (aU y0 Gk G2):=bE ZB (by kernel_rfl) af fun y=>by kernel_rfl
abbrev i141:Shape:=⟨[aK 0 .need],[],19⟩
abbrev WU:Shape:=⟨[ap 2],[],19⟩
noncomputable def f141(a:i141.F):Option WU.F:=
(G2 ((a.1.1,(0:Int),()),())).bind fun b=>
(match b with
|.inl c=>
 some ((c.1.1,()),())
|.inr d=>
 some (((decide ((d.1.1.length:Int)<=(6:Int))),()),()))
noncomputable def Y2:aB:=aG ad Tryz.f141 i141 WU [] f141
theorem z141:ay O 141 Y2:=aJ ZB Tryz.func141 (by kernel_rfl) (a6 akP af) (fun y=>by kernel_rfl) fun a=>by kernel_rfl
abbrev xt:Shape:=⟨[aK 0 .str,ag 3,ag 4],[],25⟩
abbrev D5:List aO:=[(.ret,⟨[ap 2],[],25⟩),(.exit 2,⟨[aK 0 .str,ag 3],[],25⟩)]
noncomputable def xH(y:xt.F):bD xt D5:=
 bif(decide (y.1.2.2.1<y.1.2.1)) then
(aN y.1.1 y.1.2.2.1).bind fun a=>
(aN y.1.1 y.1.2.1).bind fun b=>
 bif(a==b) then
 some (.inr (.inl ((true,()),())))
else
 some (.inl ((y.1.1,y.1.2.1,(IntKind.i64.wrap (y.1.2.2.1+(1:Int))),()),()))
else
 some (.inr (.inr ((y.1.1,y.1.2.1,()),())))
noncomputable def Em:xt.F->Option (aA D5):=bo xH
theorem agw:aT O (an (cN (an (codeOf Tryz.f142) 1 26)) 52 1682) (aU xt D5 Em):=bE g0 (by kernel_rfl) af fun y=>by kernel_rfl
abbrev yZ:Shape:=⟨[aK 0 .str,ag 3],[],25⟩
abbrev Gj:List aO:=[(.ret,⟨[ap 2],[],25⟩),(.exit 0,⟨[],[],25⟩)]
noncomputable def zD(y:yZ.F):bD yZ Gj:=
 bif(decide (y.1.2.1<(y.1.1.length:Int))) then
(Em ((y.1.1,y.1.2.1,(0:Int),()),())).bind fun a=>
(match a with
|.inl b=>
 some (.inr (.inl ((b.1.1,()),())))
|.inr c=>
 some (.inl ((c.1.1,(IntKind.i64.wrap (c.1.2.1+(1:Int))),()),())))
else
 some (.inr (.inr ((),())))
noncomputable def G1:yZ.F->Option (aA Gj):=bo zD
theorem akO:aT O (an (codeOf Tryz.f142) 1 26) (aU yZ Gj G1):=bE g0 (by kernel_rfl) (a6 agw af) fun y=>by kernel_rfl
abbrev i142:Shape:=⟨[aK 0 .str],[],25⟩
abbrev WT:Shape:=⟨[ap 2],[],25⟩
noncomputable def f142(a:i142.F):Option WT.F:=
(G1 ((a.1.1,(0:Int),()),())).bind fun b=>
(match b with
|.inl c=>
 some ((c.1.1,()),())
|.inr d=>
 some ((false,()),()))
noncomputable def Y1:aB:=aG ad Tryz.f142 i142 WT [] f142
theorem aqi:ay O 142 Y1:=aJ g0 Tryz.func142 (by kernel_rfl) (a6 akO af) (fun y=>by kernel_rfl) fun a=>by kernel_rfl
noncomputable abbrev axo:a7:=[(141,Y2),(142,Y1)]
theorem abf:aQ O (aY ad axo):=aV ⟨z141,aqi,⟨⟩⟩
abbrev Aa:Shape:=⟨[aK 1 .need,a_ 5 3000320,ag 6],[a8 3000320 .str 5 0],30⟩
abbrev zZ:List aO:=[(.exit 0,⟨[aK 1 .need,a_ 5 3000320],[a8 3000320 .str 5 0],30⟩)]
noncomputable def AC(y:Aa.F):bD Aa zZ:=
 bif(decide (y.1.2.2.1<(y.1.1.length:Int))) then
(aN y.1.1 y.1.2.2.1).bind fun a=>
(cj 16 y.2.1 ([a.name]:List J)).bind fun b=>
 some (.inl ((y.1.1,(),(IntKind.i64.wrap (y.1.2.2.1+(1:Int))),()),b,()))
else
 some (.inr ((y.1.1,(),()),y.2.1,()))
noncomputable def H4:Aa.F->Option (aA zZ):=bo AC
theorem amu:aT O (an (codeOf Tryz.f89) 1 58) (aU Aa zZ H4):=bE abf (by kernel_rfl) af fun y=>by kernel_rfl
abbrev i89:Shape:=⟨[ak 0,aK 1 .need],[],30⟩
abbrev _b:Shape:=⟨[ap 4],[],30⟩
noncomputable def f89(a:i89.F):Option _b.F:=
(H4 ((a.1.2.1,(),(0:Int),()),([a.1.1]:List J),())).bind fun b=>
(f141 ((b.1.1,()),())).bind fun c=>
 bif c.1.1 then
(f142 ((b.2.1,()),())).bind fun d=>
 some (((!d.1.1),()),())
else
 some ((false,()),())
noncomputable def aaJ:aB:=aG ad Tryz.f89 i89 _b [] f89
theorem at6:ay O 89 aaJ:=aJ abf Tryz.func89 (by kernel_rfl) (a6 amu af) (fun y=>by kernel_rfl) fun a=>by kernel_rfl
abbrev sT(ns:List bQ):Prop:=b9 ns.length/\∀n,n∈ns->wv n
theorem BF(n:Nat)(k:Nat):decide ((n:Int)<=(k:Int))=decide (n<=k):=by by_cases h:n<=k<;>simp[h]<;>omega
theorem afA(a)(hs:sT a.1.1):f141 a=some ((a.1.1.all dR&&decide (a.1.1.length<=6),()),()):=by
 obtain⟨⟨ns,u⟩,bT⟩:=a;obtain⟨hl,hn⟩:=hs;have hl:ns.length<=2097152:=hl;have key:G2 ((ns,((0:Int),())),())=some (bif allI (fun _ n=>dR n) 0 ns then .inr ((ns,()),()) else .inl ((false,()),())):=by
  refine fy zE ns (fun i=>((ns,((i:Int),())),())) _ _ _ (fun i x hx=>?_) ?_
  ·have hi:=cD hx;have hw:ax i:=by unfold ax;omega
   have hb:=hn x (List.mem_of_getElem? hx);simp only[zE,cq hi,cond_true,bY,hx,Option.bind_some];rw[ahJ _ hb.1 hb.2];simp only[Option.bind_some,b4 hw];cases dR x<;>rfl
  ·simp only[zE,dd,cond_false]
 rw[gz] at key;simp only[f141,key,Option.bind_some];cases List.all ns dR with
 |false=>rfl
 |true=>have:=BF ns.length 6;simp only[cond_true,Bool.true_and];rw[<-this];rfl
theorem afM(a)(hs:sT a.1.1):AV a=some ((a.1.1.all dR,()),()):=by
 obtain⟨⟨ns,u⟩,bT⟩:=a;obtain⟨hl,hn⟩:=hs;have hl:ns.length<=2097152:=hl;have key:Et (((),(ns,((ns.length:Int),((0:Int),())))),())=some (bif allI (fun _ n=>dR n) 0 ns then .inr ((),()) else .inl ((false,()),())):=by
  refine fy xM ns (fun i=>(((),(ns,((ns.length:Int),((i:Int),())))),())) _ _ _ (fun i x hx=>?_) ?_
  ·have hi:=cD hx;have hw:ax i:=by unfold ax;omega
   have hb:=hn x (List.mem_of_getElem? hx);simp only[xM,cq hi,cond_true,bY,hx,Option.bind_some];rw[xi _ hb.1 hb.2];simp only[Option.bind_some,b4 hw];cases dR x<;>rfl
  ·simp only[xM,dd,cond_false]
 rw[gz] at key;simp only[AV,key,Option.bind_some];cases List.all ns dR<;>rfl
def jr:List J->List J->Bool
 |_,[]=>false
 |acc,x::r=>acc.contains x||jr (acc++[x]) r
theorem ajn(xs:List J):∀(r:List J) (k:Nat),r=xs.drop k->allI (fun i x=>!((xs.take i).contains x)) k r=!jr (xs.take k) r:=by
 intro r;induction r with
 |nil=>intro k _;rfl
 |cons x r ih=>
  intro k hr;have c9:r=xs.drop (k+1):=by
   have:=congrArg List.tail hr;simpa using this
  have hx:xs[k]? =some x:=by
   have:=congrArg (fun l=>l[0]?) hr
   simpa using this.symm
  have e1:xs.take (k+1)=xs.take k++[x]:=by rw[List.take_add_one,hx];rfl
  simp only[allI,jr,ih (k+1) c9,e1,Bool.not_or]
theorem alP(bg:List J)(x:J):bg.all (fun y=>!(y==x))=!bg.contains x:=by
 induction bg with
 |nil=>rfl
 |cons y bg ih=>
  simp only[List.all_cons,ih,List.contains_cons,Bool.not_or];congr 2
  cases h:y==x with
  |true=>rw[eq_of_beq h];simp
  |false=>
   cases h2:x==y with
   |true=>rw[eq_of_beq h2] at h;simp at h
   |false=>rfl
theorem afz(a)(hs:b9 a.1.1.length):f142 a=some ((jr [] a.1.1,()),()):=by
 obtain⟨⟨xs,u⟩,bT⟩:=a;have hs:xs.length<=2097152:=hs;have inner:∀(i:Nat) (x:J),xs[i]? =some x->Em ((xs,((i:Int),((0:Int),()))),())=some (bif !((xs.take i).contains x) then .inr ((xs,((i:Int),())),()) else .inl ((true,()),())):=by
  intro i x hx;have hi:=cD hx;have hl:(xs.take i).length=i:=by rw[List.length_take];omega
  have:=fy xH (xs.take i) (fun k=>((xs,((i:Int),((k:Int),()))),())) (fun _ y=>!(y==x)) (.inl ((true,()),())) (.inr ((xs,((i:Int),())),())) (fun k y hy=>?_) ?_
  ·have:=this;rw[gz,alP] at this;exact this
  ·have hk:=cD hy;rw[hl] at hk;have hw:ax k:=by unfold ax;omega
   have dN:xs[k]? =some y:=by
    rw[List.getElem?_take,if_pos hk] at hy;exact hy
   simp only[xH,cq hk,cond_true,bY,dN,hx,Option.bind_some,b4 hw];cases (y==x)<;>rfl
  ·simp only[xH,hl,dd,cond_false]
 have key:G1 ((xs,((0:Int),())),())=some (bif allI (fun i x=>!((xs.take i).contains x)) 0 xs then .inr ((),()) else .inl ((true,()),())):=by
  refine fy zD xs (fun i=>((xs,((i:Int),())),())) _ _ _ (fun i x hx=>?_) ?_
  ·have hi:=cD hx;have hw:ax i:=by unfold ax;omega
   simp only[zD,cq hi,cond_true,inner i x hx,Option.bind_some];cases (xs.take i).contains x
   ·simp only[Bool.not_false,cond_true,b4 hw]
   ·rfl
  ·simp only[zD,dd,cond_false]
 rw[ajn xs xs 0 rfl] at key;simp only[f142,key,Option.bind_some,List.take_zero];cases jr [] xs<;>rfl
def pQ(name:J)(ns:List bQ):Bool:=ns.all dR&&decide (ns.length<=6)&&!jr [] (name::ns.map (·.name))
theorem afy(a)(hs:sT a.1.2.1)(hn:b9 a.1.1.length):f89 a=some ((pQ a.1.1 a.1.2.1,()),()):=by
 obtain⟨⟨name,ns,u⟩,bT⟩:=a;have hl:ns.length<=2097152:=hs.1;have key:H4 ((ns,((),((0:Int),()))),(([name]:List J),()))=some (((ns,((),())),((name::ns.map (·.name)),()))):=by
  have:=O0 AC ns (fun i (out:List J)=>((ns,((),((i:Int),()))),(out,()))) (fun(n:bQ) out=>out++[n.name]) (fun out=>(((ns,((),())),(out,())):aA zZ)) (fun i out=>out.length=i+1) [name] rfl (fun i x out hx c'=>?_) (fun out _=>?_)
  ·refine this.trans ?_
   have e:∀(r:List bQ) (out:List J),r.foldl (fun s x=>s++[x.name]) out=out++r.map (·.name):=by
    intro r;induction r with
    |nil=>intro out;simp
    |cons n r ih=>intro out;simp[ih]
   rw[e];rfl
  ·have hi:=cD hx;have hw:ax i:=by unfold ax;omega
   refine⟨?_,by simp[c']⟩
   simp only[AC,cq hi,cond_true,bY,hx,Option.bind_some];rw[dt (by decide) (by unfold ax;simp only[List.length_cons,List.length_nil];omega)]
   simp only[Option.bind_some,b4 hw]
  ·simp only[AC,dd,cond_false]
 simp only[f89,key,Option.bind_some];rw[afA _ hs];simp only[Option.bind_some];unfold pQ;cases aC:(List.all ns dR&&decide (ns.length<=6)) with
 |false=>rfl
 |true=>
  simp only[Bool.and_eq_true,decide_eq_true_eq] at aC;have ayG:=afz ((name::ns.map (·.name),()),()) (show(name::ns.map (·.name)).length<=2097152 by simp only[List.length_cons,List.length_map];omega)
  simp only[cond_true,Bool.true_and,ayG,Option.bind_some]
theorem ajT(a)(hs:b9 a.1.1.length):∃n:Int,f197 a=some ((n,()),())/\decide (n>=0)=a.1.1.contains a.1.2.1:=by
 obtain⟨⟨xs,x,u⟩,bT⟩:=a;have hs:xs.length<=2097152:=hs;have key:GP ((xs,(x,((xs.length:Int),((0:Int),())))),())=_:=Ei zq xs (fun i (_:Unit)=>((xs,(x,((xs.length:Int),((i:Int),())))),()))
  (fun i y _=>some (bif x==y then .inr ((.inl (((i:Int),()),())):aA rC) else .inl ())) (fun _=>.inr ((),())) (fun i y s hy=>?_) (fun s=>?_) ()
 ·have fold:∀(r:List J) (k:Nat),∃n:Int,(eF (fun i y (_:Unit)=>some (bif x==y then .inr ((.inl (((i:Int),()),())):aA rC) else .inl ())) (fun _=>(.inr ((),()):aA rC)) k r ()).bind (fun aqU=>
    (match aqU with
    |.inl aqT=>some ((aqT.1.1,()),())
    |.inr azV=>some ((((-1):Int),()),()):Option I6.F))=some ((n,()),())/\decide (n>=0)=r.contains x:=by
   intro r;induction r with
   |nil=>intro k;exact⟨-1,rfl,rfl⟩
   |cons y r ih=>
    intro k;simp only[eF,List.contains_cons];cases hxy:x==y with
    |true=>exact⟨k,rfl,by simp⟩
    |false=>
     obtain⟨n,h1,h2⟩:=ih (k+1);exact⟨n,h1,by simpa using h2⟩
  obtain⟨n,h1,h2⟩:=fold xs 0;refine⟨n,?_,h2⟩;simp only[f197];rw[key];exact h1
 ·have hi:=cD hy;have hw:ax i:=by unfold ax;omega
  simp only[zq,cq hi,cond_true,bY,hy,Option.bind_some,b4 hw];cases x==y<;>rfl
 ·simp only[zq,dd,cond_false]
theorem aeA(a)(hs:b9 a.1.1.length):f150 a=some ((a.1.1.contains a.1.2.1,()),()):=by
 obtain⟨n,h1,h2⟩:=ajT ((a.1.1,(a.1.2.1,())),()) hs;simp only[f150,h1,Option.bind_some,h2]
theorem ahL(a)(hs:b9 a.1.1.length):f149 a=some (((),()),(a.1.1,())):=by
 obtain⟨⟨xs,u⟩,bT⟩:=a;have hs:xs.length<=2097152:=hs;have h2:(cj 16 ([]:List J) xs).bind (fun x=>some (((),()),(x,())))=(some (((),()),(xs,())):Option I8.F):=by
  rw[dt (by decide) (by unfold ax;simp only[List.length_nil];omega)];rfl
 simp only[f149];rw[h2];unfold py;split
 ·rfl
 ·rename_i h;exact absurd (fun he:xs=[]=>by subst he;rfl) h
theorem acP(a)(hs:sT a.1.1)(hm:a.1.2.2.1.length<=1):AU a=some ((jr a.1.2.2.1 (a.1.1.map (·.name)),()),()):=by
 obtain⟨⟨ns,n9,more,u⟩,bT⟩:=a;have hl:ns.length<=2097152:=hs.1;have hm:more.length<=1:=hm;have hc:=ahL ((more,()),()) (show more.length<=2097152 by omega)
 have key:(Es (((),((),(ns,((ns.length:Int),((0:Int),()))))),(more,())))=_:=lE xL ns (fun i (out:List J)=>(((),((),(ns,((ns.length:Int),((i:Int),()))))),(out,())))
  (fun i (n:bQ) out=>some (bif out.contains n.name then .inr ((.inl ((true,()),())):aA ri) else .inl (out++[n.name]))) (fun _=>.inr ((),())) (fun i out=>out.length<=i+1) more (by omega) (fun i x out hx c'=>?_) (fun out _=>?_)
 ·have fold:∀(r:List bQ) (k:Nat) (out:List J),(eF (fun i (n:bQ) out=>some (bif out.contains n.name then .inr ((.inl ((true,()),())):aA ri) else .inl (out++[n.name]))) (fun _=>(.inr ((),()):aA ri)) k r out)=
    some (bif jr out (r.map (·.name)) then .inl ((true,()),()) else .inr ((),())):=by
   intro r;induction r with
   |nil=>intro k out;rfl
   |cons n r ih=>
    intro k out;simp only[eF,List.map_cons,jr];cases out.contains n.name with
    |true=>rfl
    |false=>simp only[cond_false,Bool.false_or];exact ih _ _
  rw[fold] at key;simp only[AU,hc,Option.bind_some,key];cases jr more (ns.map (·.name))<;>rfl
 ·have hi:=cD hx;have hw:ax i:=by unfold ax;omega
  refine⟨?_,fun aM aj=>?_⟩
  ·simp only[xL,cq hi,cond_true,bY,hx,Option.bind_some,f104];rw[aeA _ (show b9 out.length by show out.length<=2097152;omega)]
   simp only[Option.bind_some];cases aC:out.contains x.name with
   |true=>rfl
   |false=>
    simp only[cond_false];rw[dt (by decide) (by unfold ax;simp only[List.length_cons,List.length_nil];omega)]
    simp only[Option.bind_some,b4 hw,Option.map_some]
  ·simp only[Option.some.injEq] at aj;cases aC:out.contains x.name with
   |true=>rw[aC] at aj;cases aj
   |false=>
    rw[aC] at aj;simp only[cond_false,Sum.inl.injEq] at aj;subst aj;simp only[List.length_append,List.length_cons,List.length_nil];omega
 ·simp only[xL,dd,cond_false]
abbrev i146:Shape:=⟨[(0,.am (.d (.int .u8)))],[],29⟩
abbrev WP:Shape:=⟨[ap 2],[],29⟩
noncomputable def f146(a:i146.F):Option WP.F:=
 bif(decide (a.1.1>=(97:Int))) then
 bif(!(decide (a.1.1<=(122:Int)))) then
 bif(decide (a.1.1>=(48:Int))) then
 bif(!(decide (a.1.1<=(57:Int)))) then
 bif(!(a.1.1==(46:Int))) then
 bif(!(a.1.1==(95:Int))) then
 some (((a.1.1==(45:Int)),()),())
else
 some ((true,()),())
else
 some ((true,()),())
else
 some ((true,()),())
else
 bif(!(a.1.1==(46:Int))) then
 bif(!(a.1.1==(95:Int))) then
 some (((a.1.1==(45:Int)),()),())
else
 some ((true,()),())
else
 some ((true,()),())
else
 some ((true,()),())
else
 bif(decide (a.1.1>=(48:Int))) then
 bif(!(decide (a.1.1<=(57:Int)))) then
 bif(!(a.1.1==(46:Int))) then
 bif(!(a.1.1==(95:Int))) then
 some (((a.1.1==(45:Int)),()),())
else
 some ((true,()),())
else
 some ((true,()),())
else
 some ((true,()),())
else
 bif(!(a.1.1==(46:Int))) then
 bif(!(a.1.1==(95:Int))) then
 some (((a.1.1==(45:Int)),()),())
else
 some ((true,()),())
else
 some ((true,()),())
noncomputable def BW:aB:=aG ad Tryz.f146 i146 WP [] f146
theorem z146:ay O 146 BW:=aJ g0 Tryz.func146 (by kernel_rfl) af (fun y=>by kernel_rfl) fun a=>by kernel_rfl
noncomputable abbrev axm:a7:=[(75,n4),(146,BW)]
theorem abe:aQ O (aY ad axm):=aV ⟨z75,z146,⟨⟩⟩
abbrev z8:Shape:=⟨[ak 0,ag 3],[],26⟩
abbrev HE:List aO:=[(.ret,⟨[ap 2],[],26⟩),(.exit 0,⟨[ak 0],[],26⟩)]
noncomputable def Az(y:z8.F):bD z8 HE:=
 bif(decide (y.1.2.1<(y.1.1.length:Int))) then
(aN y.1.1 y.1.2.1).bind fun a=>
(f146 (((a.toNat:Int),()),())).bind fun b=>
 bif(!b.1.1) then
 some (.inr (.inl ((false,()),())))
else
 some (.inl ((y.1.1,(IntKind.i64.wrap (y.1.2.1+(1:Int))),()),()))
else
 some (.inr (.inr ((y.1.1,()),())))
noncomputable def H1:z8.F->Option (aA HE):=bo Az
theorem amr:aT O (an (codeOf Tryz.f91) 1 26) (aU z8 HE H1):=bE abe (by kernel_rfl) af fun y=>by kernel_rfl
abbrev i91:Shape:=⟨[ak 0],[],26⟩
abbrev Z':Shape:=⟨[ap 2],[],26⟩
noncomputable def f91(a:i91.F):Option Z'.F:=
(H1 ((a.1.1,(0:Int),()),())).bind fun b=>
(match b with
|.inl c=>
 some ((c.1.1,()),())
|.inr d=>
(f75 (((d.1.1.length:Int),(1:Int),(10:Int),()),())).bind fun e=>
 bif e.1.1 then
 bif(!(d.1.1==([46]:J))) then
 some (((!(d.1.1==([46,46]:J))),()),())
else
 some ((false,()),())
else
 some ((false,()),()))
noncomputable def aaI:aB:=aG ad Tryz.f91 i91 Z' [] f91
theorem z91:ay O 91 aaI:=aJ abe Tryz.func91 (by kernel_rfl) (a6 amr af) (fun y=>by kernel_rfl) fun a=>by kernel_rfl
noncomputable abbrev ass:a7:=[(73,ph),(91,aaI)]
theorem Zu:aQ O (aY ad ass):=aV ⟨qq,z91,⟨⟩⟩
abbrev yN:Shape:=⟨[a_ 3 3000192,ag 4],[a8 3000192 .str 3 0],25⟩
abbrev F9:List aO:=[(.ret,⟨[ap 2],[],25⟩),(.exit 0,⟨[a_ 3 3000192],[a8 3000192 .str 3 0],25⟩)]
noncomputable def zu(y:yN.F):bD yN F9:=
 bif(decide (y.1.2.1<(y.2.1.length:Int))) then
(bk y.2.1.length y.1.2.1).bind fun a=>
(y.2.1[a]?).bind fun b=>
(f91 ((b,()),())).bind fun c=>
 bif(!c.1.1) then
 some (.inr (.inl ((false,()),())))
else
 some (.inl (((),(IntKind.i64.wrap (y.1.2.1+(1:Int))),()),y.2.1,()))
else
 some (.inr (.inr (((),()),y.2.1,())))
noncomputable def GS:yN.F->Option (aA F9):=bo zu
theorem akv:aT O (an (codeOf Tryz.f193) 1 58) (aU yN F9 GS):=bE Zu (by kernel_rfl) af fun y=>by kernel_rfl
abbrev i193:Shape:=⟨[ak 0],[],25⟩
abbrev Wg:Shape:=⟨[ap 2],[],25⟩
noncomputable def f193(a:i193.F):Option Wg.F:=
(f73 ((a.1.1,(47:Int),(IntKind.i64.wrap ((a.1.1.length:Int)+(1:Int))),()),())).bind fun b=>
(GS (((),(0:Int),()),b.2.1,())).bind fun c=>
(match c with
|.inl d=>
 some ((d.1.1,()),())
|.inr e=>
 some (((decide ((e.2.1.length:Int)<=(5:Int))),()),()))
noncomputable def JO:aB:=aG ad Tryz.f193 i193 Wg [] f193
theorem z193:ay O 193 JO:=aJ Zu Tryz.func193 (by kernel_rfl) (a6 akv af) (fun y=>by kernel_rfl) fun a=>by kernel_rfl
noncomputable abbrev axl:a7:=[(75,n4)]
theorem LD:aQ O (aY ad axl):=aV ⟨z75,⟨⟩⟩
abbrev Q2:Shape:=⟨[ak 0,ag 3],[],25⟩
abbrev QI:List aO:=[(.norm,⟨[ak 0,ag 3,ap 21],[],25⟩)]
noncomputable def Hd(y:Q2.F):Option (aA QI):=
(aN y.1.1 y.1.2.1).bind fun a=>
 bif((a.toNat:Int) !=(10:Int)) then
(aN y.1.1 y.1.2.1).bind fun b=>
(f75 (((IntKind.i64.wrap (b.toNat:Int)),(32:Int),(126:Int),()),())).bind fun c=>
 some ((y.1.1,y.1.2.1,(!c.1.1),()),())
else
 some ((y.1.1,y.1.2.1,false,()),())
theorem aj0:aT O (an (cN (an (codeOf Tryz.f92) 1 26)) 52 840) (aU Q2 QI Hd):=b8 LD (by kernel_rfl) af fun y=>by kernel_rfl
abbrev z7:Shape:=⟨[ak 0,ag 3],[],25⟩
abbrev HD:List aO:=[(.ret,⟨[ap 2],[],25⟩),(.exit 0,⟨[ak 0],[],25⟩)]
noncomputable def Ay(y:z7.F):bD z7 HD:=
 bif(decide (y.1.2.1<(y.1.1.length:Int))) then
(Hd ((y.1.1,y.1.2.1,()),())).bind fun a=>
 bif a.1.2.2.1 then
 some (.inr (.inl ((false,()),())))
else
 some (.inl ((a.1.1,(IntKind.i64.wrap (a.1.2.1+(1:Int))),()),()))
else
 some (.inr (.inr ((y.1.1,()),())))
noncomputable def H0:z7.F->Option (aA HD):=bo Ay
theorem amq:aT O (an (codeOf Tryz.f92) 1 26) (aU z7 HD H0):=bE LD (by kernel_rfl) (a6 aj0 af) fun y=>by kernel_rfl
abbrev i92:Shape:=⟨[ak 0],[],25⟩
abbrev Z_:Shape:=⟨[ap 2],[],25⟩
noncomputable def f92(a:i92.F):Option Z_.F:=
(H0 ((a.1.1,(0:Int),()),())).bind fun b=>
(match b with
|.inl c=>
 some ((c.1.1,()),())
|.inr d=>
 some (((decide ((d.1.1.length:Int)<=(80:Int))),()),()))
noncomputable def aaH:aB:=aG ad Tryz.f92 i92 Z_ [] f92
theorem at5:ay O 92 aaH:=aJ LD Tryz.func92 (by kernel_rfl) (a6 amq af) (fun y=>by kernel_rfl) fun a=>by kernel_rfl
noncomputable abbrev asU:a7:=[(75,n4),(92,aaH),(193,JO)]
theorem atS:aQ O (aY ad asU):=aV ⟨z75,at5,z193,⟨⟩⟩
abbrev i143:Shape:=⟨[b5 0 [ah,aX,aX,ah]],[],42⟩
abbrev WS:Shape:=⟨[ap 2],[],42⟩
noncomputable def f143(a:i143.F):Option WS.F:=
(f193 ((a.1.1.1,()),())).bind fun b=>
 bif(!b.1.1) then
 some ((false,()),())
else
 bif(a.1.1.2.1==(1:Int)) then
(f75 ((a.1.1.2.2.1,(0:Int),(7:Int),()),())).bind fun c=>
 bif c.1.1 then
 some (((a.1.1.2.2.2.1==([]:J)),()),())
else
 some ((false,()),())
else
 bif(a.1.1.2.1==(2:Int)) then
(f75 ((a.1.1.2.2.1,(0:Int),(7:Int),()),())).bind fun d=>
 bif d.1.1 then
(f92 ((a.1.1.2.2.2.1,()),())).bind fun e=>
 some ((e.1.1,()),())
else
 some ((false,()),())
else
 bif(a.1.1.2.1==(3:Int)) then
 bif(a.1.1.2.2.1==(0:Int)) then
(f193 ((a.1.1.2.2.2.1,()),())).bind fun f=>
 some ((f.1.1,()),())
else
 some ((false,()),())
else
 some ((false,()),())
noncomputable def JX:aB:=aG ad Tryz.f143 i143 WS [] f143
theorem z143:ay O 143 JX:=aJ atS Tryz.func143 (by kernel_rfl) af (fun y=>by kernel_rfl) fun a=>by kernel_rfl
abbrev i231:Shape:=⟨[(0,.am (.d (.int .u8)))],[],29⟩
abbrev VT:Shape:=⟨[ap 2],[],29⟩
noncomputable def f231(a:i231.F):Option VT.F:=
 bif(decide (a.1.1>=(97:Int))) then
 bif(!(decide (a.1.1<=(122:Int)))) then
 bif(decide (a.1.1>=(48:Int))) then
 bif(!(decide (a.1.1<=(57:Int)))) then
 bif(!(a.1.1==(46:Int))) then
 bif(!(a.1.1==(95:Int))) then
 some (((a.1.1==(45:Int)),()),())
else
 some ((true,()),())
else
 some ((true,()),())
else
 some ((true,()),())
else
 bif(!(a.1.1==(46:Int))) then
 bif(!(a.1.1==(95:Int))) then
 some (((a.1.1==(45:Int)),()),())
else
 some ((true,()),())
else
 some ((true,()),())
else
 some ((true,()),())
else
 bif(decide (a.1.1>=(48:Int))) then
 bif(!(decide (a.1.1<=(57:Int)))) then
 bif(!(a.1.1==(46:Int))) then
 bif(!(a.1.1==(95:Int))) then
 some (((a.1.1==(45:Int)),()),())
else
 some ((true,()),())
else
 some ((true,()),())
else
 some ((true,()),())
else
 bif(!(a.1.1==(46:Int))) then
 bif(!(a.1.1==(95:Int))) then
 some (((a.1.1==(45:Int)),()),())
else
 some ((true,()),())
else
 some ((true,()),())
noncomputable def Yf:aB:=aG ad Tryz.f231 i231 VT [] f231
theorem apL:ay O 231 Yf:=aJ g0 Tryz.func231 (by kernel_rfl) af (fun y=>by kernel_rfl) fun a=>by kernel_rfl
noncomputable abbrev asr:a7:=[(231,Yf)]
theorem Zt:aQ O (aY ad asr):=aV ⟨apL,⟨⟩⟩
abbrev yL:Shape:=⟨[ak 0,ag 5,ag 6],[],17⟩
abbrev F8:List aO:=[(.ret,⟨[ap 2],[],17⟩),(.exit 0,⟨[ak 0],[],17⟩)]
noncomputable def zr(y:yL.F):bD yL F8:=
 bif(decide (y.1.2.2.1<y.1.2.1)) then
(aN y.1.1 y.1.2.2.1).bind fun a=>
(f231 (((a.toNat:Int),()),())).bind fun b=>
 bif(!b.1.1) then
 some (.inr (.inl ((false,()),())))
else
 some (.inl ((y.1.1,y.1.2.1,(IntKind.i64.wrap (y.1.2.2.1+(1:Int))),()),()))
else
 some (.inr (.inr ((y.1.1,()),())))
noncomputable def GQ:yL.F->Option (aA F8):=bo zr
theorem akt:aT O (an (codeOf Tryz.f195) 1 26) (aU yL F8 GQ):=bE Zt (by kernel_rfl) af fun y=>by kernel_rfl
abbrev i195:Shape:=⟨[ak 0],[],17⟩
abbrev We:Shape:=⟨[ap 2],[],17⟩
noncomputable def f195(a:i195.F):Option We.F:=
(GQ ((a.1.1,(a.1.1.length:Int),(0:Int),()),())).bind fun b=>
(match b with
|.inl c=>
 some ((c.1.1,()),())
|.inr d=>
 some (((!(d.1.1==([]:J))),()),()))
noncomputable def Yw:aB:=aG ad Tryz.f195 i195 We [] f195
theorem apW:ay O 195 Yw:=aJ Zt Tryz.func195 (by kernel_rfl) (a6 akt af) (fun y=>by kernel_rfl) fun a=>by kernel_rfl
noncomputable abbrev asS:a7:=[(195,Yw)]
theorem atP:aQ O (aY ad asS):=aV ⟨apW,⟨⟩⟩
abbrev i147:Shape:=⟨[ak 0],[],18⟩
abbrev WO:Shape:=⟨[ap 2],[],18⟩
noncomputable def f147(a:i147.F):Option WO.F:=
 bif(decide ((a.1.1.length:Int)<=(10:Int))) then
 bif(!(a.1.1==([46]:J))) then
 bif(!(a.1.1==([46,46]:J))) then
(f195 ((a.1.1,()),())).bind fun b=>
 some ((b.1.1,()),())
else
 some ((false,()),())
else
 some ((false,()),())
else
 some ((false,()),())
noncomputable def Y0:aB:=aG ad Tryz.f147 i147 WO [] f147
theorem aqh:ay O 147 Y0:=aJ atP Tryz.func147 (by kernel_rfl) af (fun y=>by kernel_rfl) fun a=>by kernel_rfl
abbrev i196:Shape:=⟨[(0,.am (.d (.int .u8)))],[],9⟩
abbrev Wd:Shape:=⟨[ap 2],[],9⟩
noncomputable def f196(a:i196.F):Option Wd.F:=
 bif(decide (a.1.1>=(32:Int))) then
 some (((decide (a.1.1<=(126:Int))),()),())
else
 some ((false,()),())
noncomputable def Yv:aB:=aG ad Tryz.f196 i196 Wd [] f196
theorem z196:ay O 196 Yv:=aJ g0 Tryz.func196 (by kernel_rfl) af (fun y=>by kernel_rfl) fun a=>by kernel_rfl
noncomputable abbrev asR:a7:=[(196,Yv)]
theorem J_:aQ O (aY ad asR):=aV ⟨z196,⟨⟩⟩
abbrev OL:Shape:=⟨[ak 0,ag 3,ag 8,ag 9],[],24⟩
abbrev Oq:List aO:=[(.norm,⟨[ak 0,ag 8,ag 9,ap 22],[],24⟩)]
noncomputable def EB(y:OL.F):Option (aA Oq):=
(aN y.1.1 y.1.2.1).bind fun a=>
(f196 (((a.toNat:Int),()),())).bind fun b=>
 bif(!b.1.1) then
(aN y.1.1 y.1.2.1).bind fun c=>
 some ((y.1.1,y.1.2.2.1,y.1.2.2.2.1,((c.toNat:Int) !=(10:Int)),()),())
else
 some ((y.1.1,y.1.2.2.1,y.1.2.2.2.1,false,()),())
theorem agv:aT O (an (cN (an (codeOf Tryz.f148) 1 58)) 116 7474) (aU OL Oq EB):=b8 J_ (by kernel_rfl) af fun y=>by kernel_rfl
abbrev yX:Shape:=⟨[ak 0,ag 8,ag 9],[],24⟩
abbrev Gh:List aO:=[(.ret,⟨[ap 2],[],24⟩),(.exit 0,⟨[],[],24⟩)]
noncomputable def zC(y:yX.F):bD yX Gh:=
 bif(decide (y.1.2.2.1<y.1.2.1)) then
(EB ((y.1.1,y.1.2.2.1,y.1.2.1,y.1.2.2.1,()),())).bind fun a=>
 bif a.1.2.2.2.1 then
 some (.inr (.inl ((false,()),())))
else
 some (.inl ((a.1.1,a.1.2.1,(IntKind.i64.wrap (a.1.2.2.1+(1:Int))),()),()))
else
 some (.inr (.inr ((),())))
noncomputable def GZ:yX.F->Option (aA Gh):=bo zC
theorem akM:aT O (an (codeOf Tryz.f148) 1 58) (aU yX Gh GZ):=bE J_ (by kernel_rfl) (a6 agv af) fun y=>by kernel_rfl
abbrev i148:Shape:=⟨[ak 0],[],24⟩
abbrev WN:Shape:=⟨[ap 2],[],24⟩
noncomputable def f148(a:i148.F):Option WN.F:=
 bif(decide ((a.1.1.length:Int)>(80:Int))) then
 some ((false,()),())
else
(GZ ((a.1.1,(a.1.1.length:Int),(0:Int),()),())).bind fun b=>
(match b with
|.inl c=>
 some ((c.1.1,()),())
|.inr d=>
 some ((true,()),()))
noncomputable def YZ:aB:=aG ad Tryz.f148 i148 WN [] f148
theorem z148:ay O 148 YZ:=aJ J_ Tryz.func148 (by kernel_rfl) (a6 akM af) (fun y=>by kernel_rfl) fun a=>by kernel_rfl
noncomputable abbrev asq:a7:=[(147,Y0)]
theorem J5:aQ O (aY ad asq):=aV ⟨aqh,⟨⟩⟩
abbrev P2:Shape:=⟨[au 2 2 0,au 3 3 0,ak 4],[ar 2 [lz],ar 3 [aX]],17⟩
abbrev PK:List aO:=[(.norm,⟨[au 2 2 0,au 3 3 0,ap 16],[ar 2 [lz],ar 3 [aX]],17⟩)]
noncomputable def FF(y:P2.F):Option (aA PK):=
 bif(!(decide (y.2.2.1.1>(5:Int)))) then
(f147 ((y.1.2.2.1,()),())).bind fun a=>
 some (((),(),(!a.1.1),()),(y.2.1.1,()),(y.2.2.1.1,()),())
else
 some (((),(),true,()),(y.2.1.1,()),(y.2.2.1.1,()),())
theorem aiv:aT O (an (jK (an (codeOf Tryz.f199) 1 58)) 117 938) (aU P2 PK FF):=b8 J5 (by kernel_rfl) af fun y=>by kernel_rfl
abbrev yJ:Shape:=⟨[au 2 2 0,au 3 3 0],[ar 2 [lz],ar 3 [aX]],17⟩
abbrev F7:List aO:=[(.norm,⟨[au 2 2 0],[ar 2 [lz]],17⟩),(.ret,⟨[au 2 2 0],[ar 2 [lz]],17⟩)]
noncomputable def rK(x:J)(y:yJ.F):bD yJ F7:=
(FF (((),(),x,()),(y.2.1.1,()),((IntKind.i64.wrap (y.2.2.1.1+(1:Int))),()),())).bind fun a=>
 bif a.1.2.2.1 then
 some (.inr (.inr (((),()),(false,()),())))
else
 some (.inl (((),(),()),(a.2.1.1,()),(a.2.2.1.1,()),()))
noncomputable def uk(y:yJ.F):Option (aA F7):=
 some (.inl (((),()),(y.2.1.1,()),()))
theorem akr:aT O (an (codeOf Tryz.f199) 1 58) (rs 266 6 yJ F7 rK uk):=M_ (eH:=7) J5 UJ (by kernel_rfl) (a6 aiv af) (by kernel_rfl) (fun x y=>by kernel_rfl) fun y=>by kernel_rfl
abbrev i199:Shape:=⟨[ak 0],[],17⟩
abbrev Wc:Shape:=⟨[au 2 2 0],[ar 2 [lz]],17⟩
noncomputable def f199(a:i199.F):Option Wc.F:=
(bif Nat.ble a.1.1.length kc then h7 rK uk (bC (47:UInt8) a.1.1) (((),(),()),(false,()),((0:Int),()),()) else none).bind fun b=>
(match b with
|.inl c=>
 some (((),()),(true,()),())
|.inr d=>
 some (((),()),(d.2.1.1,()),()))
noncomputable def JN:aB:=aG ad Tryz.f199 i199 Wc [] f199
theorem Vh:ay O 199 JN:=aJ J5 Tryz.func199 (by kernel_rfl) (a6 akr af) (fun y=>by kernel_rfl) fun a=>by kernel_rfl
noncomputable abbrev asO:a7:=[(148,YZ),(199,JN)]
theorem ZA:aQ O (aY ad asO):=aV ⟨z148,Vh,⟨⟩⟩
abbrev Rg:Shape:=⟨[au 1 1 0],[ar 1 [ah,aX,aX,ah]],39⟩
abbrev QY:List aO:=[(.norm,⟨[au 1 1 0,ap 16],[ar 1 [ah,aX,aX,ah]],39⟩)]
noncomputable def Hn(y:Rg.F):Option (aA QY):=
(f199 ((y.2.1.1,()),())).bind fun a=>
 bif(!(!a.2.1.1)) then
 bif(!(decide (y.2.1.2.2.1<(0:Int)))) then
 some (((),(decide (y.2.1.2.2.1>(7:Int))),()),(y.2.1.1,y.2.1.2.1,y.2.1.2.2.1,y.2.1.2.2.2.1,()),())
else
 some (((),true,()),(y.2.1.1,y.2.1.2.1,y.2.1.2.2.1,y.2.1.2.2.2.1,()),())
else
 some (((),true,()),(y.2.1.1,y.2.1.2.1,y.2.1.2.2.1,y.2.1.2.2.2.1,()),())
theorem akK:aT O (an (codeOf Tryz.f152) 1 12) (aU Rg QY Hn):=b8 ZA (by kernel_rfl) af fun y=>by kernel_rfl
abbrev i152:Shape:=⟨[b5 0 [ah,aX,aX,ah]],[],39⟩
abbrev WK:Shape:=⟨[ap 2],[],39⟩
noncomputable def f152(a:i152.F):Option WK.F:=
(Hn (((),()),(a.1.1.1,a.1.1.2.1,a.1.1.2.2.1,a.1.1.2.2.2.1,()),())).bind fun b=>
 bif b.1.2.1 then
 some ((false,()),())
else
 bif(b.2.1.2.1==(1:Int)) then
 some (((b.2.1.2.2.2.1==([]:J)),()),())
else
 bif(b.2.1.2.1==(2:Int)) then
(f148 ((b.2.1.2.2.2.1,()),())).bind fun c=>
 some ((c.1.1,()),())
else
 bif(b.2.1.2.1==(3:Int)) then
 bif(b.2.1.2.2.1==(0:Int)) then
(f199 ((b.2.1.2.2.2.1,()),())).bind fun d=>
 some ((d.2.1.1,()),())
else
 some ((false,()),())
else
 some ((false,()),())
noncomputable def YW:aB:=aG ad Tryz.f152 i152 WK [] f152
theorem z152:ay O 152 YW:=aJ ZA Tryz.func152 (by kernel_rfl) (a6 akK af) (fun y=>by kernel_rfl) fun a=>by kernel_rfl
def jJ(n:Int):Bool:=(decide (97<=n)&&decide (n<=122))||(decide (48<=n)&&decide (n<=57))||n==46||n==95||n==45
theorem N9(a):f146 a=some ((jJ a.1.1,()),()):=by
 obtain⟨⟨n,u⟩,bT⟩:=a;simp only[f146,jJ,ge_iff_le];generalize decide ((97:Int)<=n)=b1;generalize decide (n<=(122:Int))=b2;generalize decide ((48:Int)<=n)=b3;generalize decide (n<=(57:Int))=wN;generalize(n==(46:Int))=wM;generalize(n==(95:Int))=Ma;generalize(n==(45:Int))=L_;cases b1<;>cases b2<;>cases b3<;>cases wN<;>cases wM<;>cases Ma<;>cases L_<;>rfl
theorem aeq(a):f231 a=some ((jJ a.1.1,()),()):=by
 obtain⟨⟨n,u⟩,bT⟩:=a;simp only[f231,jJ,ge_iff_le];generalize decide ((97:Int)<=n)=b1;generalize decide (n<=(122:Int))=b2;generalize decide ((48:Int)<=n)=b3;generalize decide (n<=(57:Int))=wN;generalize(n==(46:Int))=wM;generalize(n==(95:Int))=Ma;generalize(n==(45:Int))=L_;cases b1<;>cases b2<;>cases b3<;>cases wN<;>cases wM<;>cases Ma<;>cases L_<;>rfl
def jR(s:J):Bool:=s.all (fun b=>jJ b.toNat)&&within s.length 1 10&&!(s==[46])&&!(s==[46,46])
theorem ahB(a)(hs:b9 a.1.1.length):f91 a=some ((jR a.1.1,()),()):=by
 obtain⟨⟨s,u⟩,bT⟩:=a;have hs:s.length<=2097152:=hs;have key:H1 ((s,((0:Int),())),())=some (bif allI (fun _ b=>jJ b.toNat) 0 s then .inr ((s,()),()) else .inl ((false,()),())):=by
  refine fy Az s (fun i=>((s,((i:Int),())),())) _ _ _ (fun i x hx=>?_) ?_
  ·have hi:=cD hx;have hw:ax i:=by unfold ax;omega
   simp only[Az,cq hi,cond_true,bY,hx,Option.bind_some,N9,b4 hw];cases jJ x.toNat<;>rfl
  ·simp only[Az,dd,cond_false]
 rw[gz] at key;simp only[f91,key,Option.bind_some,jR];cases List.all s (fun b=>jJ b.toNat) with
 |false=>rfl
 |true=>
  simp only[cond_true,rQ,Option.bind_some,Bool.true_and];cases within (s.length:Int) 1 10<;>cases (s==[46])<;>rfl
theorem ahs(a)(hs:b9 a.1.1.length):f147 a=some ((jR a.1.1,()),()):=by
 obtain⟨⟨s,u⟩,bT⟩:=a;have hs:s.length<=2097152:=hs;have key:GQ ((s,((s.length:Int),((0:Int),()))),())=some (bif allI (fun _ b=>jJ b.toNat) 0 s then .inr ((s,()),()) else .inl ((false,()),())):=by
  refine fy zr s (fun i=>((s,((s.length:Int),((i:Int),()))),())) _ _ _ (fun i x hx=>?_) ?_
  ·have hi:=cD hx;have hw:ax i:=by unfold ax;omega
   simp only[zr,cq hi,cond_true,bY,hx,Option.bind_some,aeq,b4 hw];cases jJ x.toNat<;>rfl
  ·simp only[zr,dd,cond_false]
 rw[gz] at key;have vX:f195 ((s,()),())=some ((List.all s (fun b=>jJ b.toNat)&&!(s==([]:J)),()),()):=by
  simp only[f195,key,Option.bind_some];cases List.all s (fun b=>jJ b.toNat)<;>rfl
 have h1:decide ((1:Int)<=(s.length:Int))=!(s==([]:J)):=by
  cases s with
  |nil=>rfl
  |cons b r=>
   have:((b::r)==([]:J))=false:=rfl;simp only[List.length_cons];rw[this];simp only[Bool.not_false,decide_eq_true_eq];omega
 simp only[f147,vX,Option.bind_some,jR,within,h1];cases decide ((s.length:Int)<=10)<;>cases (s==[46])<;>cases (s==[46,46])<;>cases List.all s (fun b=>jJ b.toNat)<;>cases (s==([]:J))<;>rfl
def fQ(s:J):Bool:=(bC 47 s).all jR&&decide ((bC 47 s).length<=5)
theorem EK(a)(hs:b9 a.1.1.length):f193 a=some ((fQ a.1.1,()),()):=by
 obtain⟨⟨s,u⟩,bT⟩:=a;have hs:s.length<=2097152:=hs;have hlen:=nf 47 s;have gH:f73 ((s,((47:Int),((IntKind.i64.wrap ((s.length:Int)+(1:Int))),()))),())=some (((),()),(bC 47 s,())):=
  t' 47 _ hs rfl (b4 (by unfold ax;omega))
 have key:GS (((),((0:Int),())),(bC 47 s,()))=some (bif allI (fun _ x=>jR x) 0 (bC 47 s) then .inr (((),()),(bC 47 s,())) else .inl ((false,()),())):=by
  refine fy zu (bC 47 s) (fun i=>(((),((i:Int),())),(bC 47 s,()))) _ _ _ (fun i x hx=>?_) ?_
  ·have hi:=cD hx;have hw:ax i:=by unfold ax;omega
   have hxl:x.length<=s.length:=pq 47 s x (List.mem_of_getElem? hx);simp only[zu,cq hi,cond_true,fO hi,hx,Option.bind_some];rw[ahB _ (show x.length<=2097152 by omega)]
   simp only[Option.bind_some,b4 hw];cases jR x<;>rfl
  ·simp only[zu,dd,cond_false]
 rw[gz] at key;simp only[f193,gH,Option.bind_some,key,fQ];cases List.all (bC 47 s) jR with
 |false=>rfl
 |true=>have:=BF (bC 47 s).length 5;simp only[cond_true,Bool.true_and];rw[<-this];rfl
theorem EN(a)(hs:b9 a.1.1.length):f199 a=some (((),()),((fQ a.1.1,()),())):=by
 obtain⟨⟨s,u⟩,bT⟩:=a;have hs:s.length<=2097152:=hs;have Jt:Nat.ble s.length kc=true:=Nat.ble_eq_true_of_le (by unfold kc;omega)
 have fold:∀(r:List J) (k:Nat),(∀x,x∈r->x.length<=s.length)->k<=5->
   h7 rK uk r (((),((),())),((false,()),(((k:Int),()),())))=
    some (bif r.all jR&&decide (k+r.length<=5) then(.inl (((),()),((false,()),()))) else(.inr (((),()),((false,()),())))):=by
  intro r;induction r with
  |nil=>
   intro k _ hk;have:decide (k+0<=5)=true:=by simpa using hk
   simp only[h7,uk,List.all_nil,List.length_nil,this,Bool.and_self,cond_true]
  |cons x r ih=>
   intro k hr hk;have hx:=hr x List.mem_cons_self;have kr:=ahs ((x,()),()) (show x.length<=2097152 by omega)
   have hw:=b4 (i:=k) (by unfold ax;omega)
   have vY:decide (((k+1:Nat):Int)>5)=!decide (k+1<=5):=by by_cases h:k+1<=5<;>simp only[h,decide_true,decide_false,Bool.not_true,Bool.not_false,decide_eq_true_eq,decide_eq_false_iff_not]<;>omega
   have step:rK x (((),((),())),((false,()),(((k:Int),()),())))=
     some (bif jR x&&decide (k+1<=5) then .inl (((),((),())),((false,()),((((k+1:Nat):Int),()),()))) else .inr (.inr (((),()),((false,()),())))):=by
    simp only[rK,FF,hw,vY,Bool.not_not,kr,Option.bind_some];cases decide (k+1<=5) with
    |false=>cases jR x<;>rfl
    |true=>cases jR x<;>rfl
   rw[h7,step,List.all_cons];cases hn:jR x with
   |false=>rfl
   |true=>
    simp only[Bool.true_and];cases aC:decide (k+1<=5) with
    |false=>
     have:decide (k+(x::r).length<=5)=false:=by simp only[decide_eq_false_iff_not,List.length_cons] at aC ⊢;omega
     rw[this];simp
    |true=>
     simp only[cond_true];rw[ih (k+1) (fun y hy=>hr y (List.mem_cons_of_mem _ hy)) (by simpa using aC)]
     have e1:k+1+r.length=k+(x::r).length:=by simp only[List.length_cons];omega
     rw[e1]
 have key:=fold (bC (47:UInt8) s) 0 (fun x hx=>pq 47 s x hx) (Nat.zero_le _)
 have Jc:h7 rK uk (bC (47:UInt8) s) (((),((),())),((false,()),(((0:Int),()),())))=some (bif fQ s then(.inl (((),()),((false,()),()))) else(.inr (((),()),((false,()),())))):=by
  refine key.trans ?_
  unfold fQ;rw[Nat.zero_add]
 simp only[f199,Jt,cond_true,Jc,Option.bind_some];cases fQ s<;>rfl
def oB(s:J):Bool:=s.all (fun b=>(b.toNat:Int)==10||within b.toNat 32 126)&&decide (s.length<=80)
theorem afs(b:UInt8):IntKind.i64.wrap (b.toNat:Int)=(b.toNat:Int):=by
 have:=b.toNat_lt;rw[cM (by omega) (by omega)]
theorem ahy(a)(hs:b9 a.1.1.length):f92 a=some ((oB a.1.1,()),()):=by
 obtain⟨⟨s,u⟩,bT⟩:=a;have hs:s.length<=2097152:=hs;have key:H0 ((s,((0:Int),())),())=some (bif allI (fun _ b=>(b.toNat:Int)==10||within b.toNat 32 126) 0 s then .inr ((s,()),()) else .inl ((false,()),())):=by
  refine fy Ay s (fun i=>((s,((i:Int),())),())) _ _ _ (fun i x hx=>?_) ?_
  ·have hi:=cD hx;have hw:ax i:=by unfold ax;omega
   have hne:((x.toNat:Int) !=10)=!((x.toNat:Int)==10):=rfl;simp only[Ay,cq hi,cond_true,Hd,bY,hx,Option.bind_some,hne,rQ,afs];cases ((x.toNat:Int)==10)<;>cases within (x.toNat:Int) 32 126<;>simp only[Bool.not_true,Bool.not_false,cond_true,cond_false,Option.bind_some,b4 hw,Bool.or_true,Bool.true_or,Bool.or_false]
  ·simp only[Ay,dd,cond_false]
 rw[gz] at key;simp only[f92,key,Option.bind_some,oB];cases List.all s (fun b=>(b.toNat:Int)==10||within b.toNat 32 126) with
 |false=>rfl
 |true=>have:=BF s.length 80;simp only[cond_true,Bool.true_and];rw[<-this];rfl
theorem adu(a):f196 a=some ((within a.1.1 32 126,()),()):=by
 simp only[f196,within,ge_iff_le];cases decide ((32:Int)<=a.1.1)<;>rfl
theorem aew(a)(hs:b9 a.1.1.length):f148 a=some ((oB a.1.1,()),()):=by
 obtain⟨⟨s,u⟩,bT⟩:=a;have hs:s.length<=2097152:=hs;have key:GZ ((s,((s.length:Int),((0:Int),()))),())=some (bif allI (fun _ b=>(b.toNat:Int)==10||within b.toNat 32 126) 0 s then .inr ((),()) else .inl ((false,()),())):=by
  refine fy zC s (fun i=>((s,((s.length:Int),((i:Int),()))),())) _ _ _ (fun i x hx=>?_) ?_
  ·have hi:=cD hx;have hw:ax i:=by unfold ax;omega
   have hne:((x.toNat:Int) !=10)=!((x.toNat:Int)==10):=rfl;simp only[zC,cq hi,cond_true,EB,bY,hx,Option.bind_some,hne,adu];cases ((x.toNat:Int)==10)<;>cases within (x.toNat:Int) 32 126<;>simp only[Bool.not_true,Bool.not_false,cond_true,cond_false,Option.bind_some,b4 hw,Bool.or_true,Bool.true_or,Bool.or_false]
  ·simp only[zC,dd,cond_false]
 rw[gz] at key;have awz:decide ((s.length:Int)>80)=!decide (s.length<=80):=by by_cases h:s.length<=80<;>simp only[h,decide_true,decide_false,Bool.not_true,Bool.not_false,decide_eq_true_eq,decide_eq_false_iff_not]<;>omega
 simp only[f148,key,Option.bind_some,oB,awz];cases decide (s.length<=80)<;>cases List.all s (fun b=>(b.toNat:Int)==10||within b.toNat 32 126)<;>rfl
def eN(e:az):Bool:=fQ e.path&&(bif e.kind==1 then within e.mode 0 7&&e.text==[] else bif e.kind==2 then within e.mode 0 7&&oB e.text else bif e.kind==3 then e.mode==0&&fQ e.text else false)
abbrev ls(e:az):Prop:=b9 e.path.length/\b9 e.text.length
theorem N8(a)(h1:b9 a.1.1.1.length)(h2:b9 a.1.1.2.2.2.1.length):f143 a=some ((eN ⟨a.1.1.1,a.1.1.2.1,a.1.1.2.2.1,a.1.1.2.2.2.1⟩,()),()):=by
 obtain⟨⟨⟨p,k,m,t,u⟩,bT⟩,mL⟩:=a;have e1:=EK ((p,()),()) h1;have e2:=EK ((t,()),()) h2;have bv:=ahy ((t,()),()) h2;simp only[f143,e1,e2,bv,rQ,Option.bind_some,eN];cases fQ p with
 |false=>rfl
 |true=>cases (k==1)<;>cases (k==2)<;>cases (k==3)<;>cases within m 0 7<;>cases (m==0)<;>rfl
theorem afK(a)(h1:b9 a.1.1.1.length)(h2:b9 a.1.1.2.2.2.1.length):f152 a=some ((eN ⟨a.1.1.1,a.1.1.2.1,a.1.1.2.2.1,a.1.1.2.2.2.1⟩,()),()):=by
 obtain⟨⟨⟨p,k,m,t,u⟩,bT⟩,mL⟩:=a;have e1:=EN ((p,()),()) h1;have e2:=EN ((t,()),()) h2;have bv:=aew ((t,()),()) h2;have hm:within m 0 7=true\/(m==0)=false:=by
  cases h:(m==0) with
  |false=>exact .inr rfl
  |true=>left;rw[show m=(0:Int) from eq_of_beq h];rfl
 simp only[f152,Hn,e1,e2,bv,Option.bind_some,eN,nX,mW,Bool.not_not];unfold within at hm ⊢;cases fQ p with
 |false=>rfl
 |true=>
  cases h0:decide ((0:Int)<=m)<;>cases hX:decide (m<=7)<;>rw[h0,hX] at hm<;>cases aay:(m==0)<;>rw[aay] at hm<;>
   first|(simp at hm;done)|(simp only[Bool.not_true,Bool.not_false,cond_true,cond_false,Option.bind_some,aay,e2,bv,Bool.and_true,Bool.and_false,Bool.true_and,Bool.false_and];cases (k==1)<;>cases (k==2)<;>cases (k==3)<;>rfl)
abbrev yM:Shape:=⟨[aK 0 .entry,ak 1,ag 4,ap 5,ag 6],[],36⟩
abbrev rD:List aO:=[(.exit 0,⟨[aK 0 .entry,ak 1,ag 4,ap 5,ag 6],[],36⟩)]
noncomputable def zt(y:yM.F):bD yM rD:=
 bif(decide (y.1.2.2.2.2.1<(y.1.1.length:Int))) then
(aN y.1.1 y.1.2.2.2.2.1).bind fun a=>
 bif(Op.bytesLess a.path y.1.2.1) then
 some (.inl ((y.1.1,y.1.2.1,y.1.2.2.1,y.1.2.2.2.1,(IntKind.i64.wrap (y.1.2.2.2.2.1+(1:Int))),()),()))
else
 some (.inr ((y.1.1,y.1.2.1,y.1.2.2.1,y.1.2.2.2.1,y.1.2.2.2.2.1,()),()))
else
 some (.inr ((y.1.1,y.1.2.1,y.1.2.2.1,y.1.2.2.2.1,y.1.2.2.2.2.1,()),()))
noncomputable def GR:yM.F->Option (aA rD):=bo zt
theorem aku:aT O (an (codeOf Tryz.f194) 1 28) (aU yM rD GR):=bE g0 (by kernel_rfl) af fun y=>by kernel_rfl
abbrev i194:Shape:=⟨[aK 0 .entry,ak 1],[],36⟩
abbrev Wf:Shape:=⟨[ag 4,ap 5],[],36⟩
noncomputable def f194(a:i194.F):Option Wf.F:=
(GR ((a.1.1,a.1.2.1,(0:Int),false,(0:Int),()),())).bind fun b=>
 bif(decide (b.1.2.2.2.2.1<(b.1.1.length:Int))) then
(aN b.1.1 b.1.2.2.2.2.1).bind fun c=>
 some ((b.1.2.2.2.2.1,(c.path==b.1.2.1),()),())
else
 some ((b.1.2.2.2.2.1,false,()),())
noncomputable def BV:aB:=aG ad Tryz.f194 i194 Wf [] f194
theorem z194:ay O 194 BV:=aJ g0 Tryz.func194 (by kernel_rfl) (a6 aku af) (fun y=>by kernel_rfl) fun a=>by kernel_rfl
noncomputable abbrev asT:a7:=[(194,BV)]
theorem atQ:aQ O (aY ad asT):=aV ⟨z194,⟨⟩⟩
abbrev i144:Shape:=⟨[aK 0 .entry,ak 1],[],26⟩
abbrev WR:Shape:=⟨[ap 4],[],26⟩
noncomputable def f144(a:i144.F):Option WR.F:=
(f194 ((a.1.1,a.1.2.1,()),())).bind fun b=>
 bif(!(a.1.2.1==([]:J))) then
 bif b.1.2.1 then
(aN a.1.1 b.1.1).bind fun c=>
 some (((c.kind==(1:Int)),()),())
else
 some ((false,()),())
else
 some ((true,()),())
noncomputable def JW:aB:=aG ad Tryz.f144 i144 WR [] f144
theorem Vl:ay O 144 JW:=aJ atQ Tryz.func144 (by kernel_rfl) af (fun y=>by kernel_rfl) fun a=>by kernel_rfl
abbrev yY:Shape:=⟨[ak 0,ag 3],[],18⟩
abbrev Gi:List aO:=[(.ret,⟨[ak 2],[],18⟩),(.exit 0,⟨[],[],18⟩)]
noncomputable def Ho(y:yY.F):bD yY Gi:=
 bif(decide (y.1.2.1>=(0:Int))) then
(aN y.1.1 y.1.2.1).bind fun a=>
 bif((a.toNat:Int)==(47:Int)) then
(bu y.1.1 (0:Int) y.1.2.1).bind fun b=>
 some (.inr (.inl ((b,()),())))
else
 some (.inl ((y.1.1,(IntKind.i64.wrap (y.1.2.1-(1:Int))),()),()))
else
 some (.inr (.inr ((),())))
noncomputable def G0:yY.F->Option (aA Gi):=bo Ho
theorem akN:aT O (an (codeOf Tryz.f145) 1 26) (aU yY Gi G0):=bE g0 (by kernel_rfl) af fun y=>by kernel_rfl
abbrev i145:Shape:=⟨[ak 0],[],18⟩
abbrev WQ:Shape:=⟨[ak 2],[],18⟩
noncomputable def f145(a:i145.F):Option WQ.F:=
(G0 ((a.1.1,(IntKind.i64.wrap ((a.1.1.length:Int)-(1:Int))),()),())).bind fun b=>
(match b with
|.inl c=>
 some ((c.1.1,()),())
|.inr d=>
 some ((([]:J),()),()))
noncomputable def JV:aB:=aG ad Tryz.f145 i145 WQ [] f145
theorem z145:ay O 145 JV:=aJ g0 Tryz.func145 (by kernel_rfl) (a6 akN af) (fun y=>by kernel_rfl) fun a=>by kernel_rfl
abbrev yC:Shape:=⟨[ak 0,(1,.am (.d (.int .u8))),ag 5],[],19⟩
abbrev F0:List aO:=[(.ret,⟨[ag 4],[],19⟩),(.exit 0,⟨[],[],19⟩)]
noncomputable def Hi(y:yC.F):bD yC F0:=
 bif(decide (y.1.2.2.1>=(0:Int))) then
(aN y.1.1 y.1.2.2.1).bind fun a=>
 bif((a.toNat:Int)==y.1.2.1) then
 some (.inr (.inl ((y.1.2.2.1,()),())))
else
 some (.inl ((y.1.1,y.1.2.1,(IntKind.i64.wrap (y.1.2.2.1-(1:Int))),()),()))
else
 some (.inr (.inr ((),())))
noncomputable def GM:yC.F->Option (aA F0):=bo Hi
theorem akh:aT O (an (codeOf Tryz.f267) 1 26) (aU yC F0 GM):=bE g0 (by kernel_rfl) af fun y=>by kernel_rfl
abbrev i267:Shape:=⟨[ak 0,(1,.am (.d (.int .u8)))],[],19⟩
abbrev VI:Shape:=⟨[ag 4],[],19⟩
noncomputable def f267(a:i267.F):Option VI.F:=
(GM ((a.1.1,a.1.2.1,(IntKind.i64.wrap ((a.1.1.length:Int)-(1:Int))),()),())).bind fun b=>
(match b with
|.inl c=>
 some ((c.1.1,()),())
|.inr d=>
 some ((((-1):Int),()),()))
noncomputable def X5:aB:=aG ad Tryz.f267 i267 VI [] f267
theorem apB:ay O 267 X5:=aJ g0 Tryz.func267 (by kernel_rfl) (a6 akh af) (fun y=>by kernel_rfl) fun a=>by kernel_rfl
noncomputable abbrev ar8:a7:=[(267,X5)]
theorem atv:aQ O (aY ad ar8):=aV ⟨apB,⟨⟩⟩
abbrev i233:Shape:=⟨[ak 0,(1,.am (.d (.int .u8)))],[],8⟩
abbrev VS:Shape:=⟨[ag 4],[],8⟩
noncomputable def f233(a:i233.F):Option VS.F:=
(f267 ((a.1.1,a.1.2.1,()),())).bind fun b=>
 some ((b.1.1,()),())
noncomputable def Ye:aB:=aG ad Tryz.f233 i233 VS [] f233
theorem z233:ay O 233 Ye:=aJ atv Tryz.func233 (by kernel_rfl) af (fun y=>by kernel_rfl) fun a=>by kernel_rfl
noncomputable abbrev asp:a7:=[(199,JN),(233,Ye)]
theorem atE:aQ O (aY ad asp):=aV ⟨Vh,z233,⟨⟩⟩
abbrev i200:Shape:=⟨[ak 0],[],11⟩
abbrev Wb:Shape:=⟨[ak 2],[],11⟩
noncomputable def f200(a:i200.F):Option Wb.F:=
(f199 ((a.1.1,()),())).bind fun b=>
 bif(!b.2.1.1) then
 some ((([]:J),()),())
else
(f233 ((a.1.1,(47:Int),()),())).bind fun c=>
(bu a.1.1 (0:Int) (gp c.1.1 (0:Int))).bind fun d=>
 some ((d,()),())
noncomputable def Yt:aB:=aG ad Tryz.f200 i200 Wb [] f200
theorem apU:ay O 200 Yt:=aJ atE Tryz.func200 (by kernel_rfl) af (fun y=>by kernel_rfl) fun a=>by kernel_rfl
abbrev i283:Shape:=⟨[ak 0],[],6⟩
abbrev VC:Shape:=⟨[ap 2],[],6⟩
noncomputable def f283(a:i283.F):Option VC.F:=
 some (((!(a.1.1==a.1.1)),()),())
noncomputable def XY:aB:=aG ad Tryz.f283 i283 VC [] f283
theorem apu:ay O 283 XY:=aJ g0 Tryz.func283 (by kernel_rfl) af (fun y=>by kernel_rfl) fun a=>by kernel_rfl
noncomputable abbrev ar1:a7:=[(283,XY)]
theorem atq:aQ O (aY ad ar1):=aV ⟨apu,⟨⟩⟩
abbrev i268:Shape:=⟨[ak 0,ak 1],[],20⟩
abbrev VH:Shape:=⟨[ag 4],[],20⟩
noncomputable def f268(a:i268.F):Option VH.F:=
(f283 ((a.1.1,()),())).bind fun b=>
(f283 ((a.1.2.1,()),())).bind fun c=>
 bif b.1.1 then
 bif c.1.1 then
 some (((0:Int),()),())
else
 some ((((-1):Int),()),())
else
 bif c.1.1 then
 some (((1:Int),()),())
else
 bif(Op.bytesLess a.1.1 a.1.2.1) then
 some ((((-1):Int),()),())
else
 bif(!(Op.bytesLess a.1.1 a.1.2.1||a.1.1==a.1.2.1)) then
 some (((1:Int),()),())
else
 some (((0:Int),()),())
noncomputable def X4:aB:=aG ad Tryz.f268 i268 VH [] f268
theorem apA:ay O 268 X4:=aJ atq Tryz.func268 (by kernel_rfl) af (fun y=>by kernel_rfl) fun a=>by kernel_rfl
noncomputable abbrev ar7:a7:=[(268,X4)]
theorem atu:aQ O (aY ad ar7):=aV ⟨apA,⟨⟩⟩
abbrev i235:Shape:=⟨[b5 0 [ah,aX,aX,ah],b5 1 [ah,aX,aX,ah]],[],10⟩
abbrev VR:Shape:=⟨[ag 4],[],10⟩
noncomputable def f235(a:i235.F):Option VR.F:=
(f268 ((a.1.1.1,a.1.2.1.1,()),())).bind fun b=>
 some ((b.1.1,()),())
noncomputable def Yd:aB:=aG ad Tryz.f235 i235 VR [] f235
theorem apK:ay O 235 Yd:=aJ atu Tryz.func235 (by kernel_rfl) af (fun y=>by kernel_rfl) fun a=>by kernel_rfl
noncomputable abbrev anv:a7:=[(235,Yd)]
theorem Ue:aQ O (aY ad anv):=aV ⟨apK,⟨⟩⟩
abbrev xp:Shape:=⟨[aK 0 .entry,(2,.am (.fn 235 [])),au 4 4 0,ag 6,ap 7,ag 8,ag 9,ag 10],[ar 4 [ah,aX,aX,ah]],49⟩
abbrev D2:List aO:=[(.exit 0,⟨[aK 0 .entry,(2,.am (.fn 235 [])),au 4 4 0,ag 6,ap 7,ag 8,ag 9],[ar 4 [ah,aX,aX,ah]],49⟩)]
noncomputable def xD(y:xp.F):bD xp D2:=
 bif(decide (y.1.2.2.2.2.2.2.1<y.1.2.2.2.2.2.2.2.1)) then
(eZ .u64 (IntKind.u64.wrap (IntKind.i64.wrap (y.1.2.2.2.2.2.2.1+y.1.2.2.2.2.2.2.2.1))) (1:Int)).bind fun a=>
(aN y.1.1 (IntKind.i64.wrap a)).bind fun b=>
(f235 (((b.path,b.kind,b.mode,b.text,()),(y.2.1.1,y.2.1.2.1,y.2.1.2.2.1,y.2.1.2.2.2.1,()),()),())).bind fun c=>
 bif(decide (c.1.1<(0:Int))) then
 some (.inl ((y.1.1,(),(),y.1.2.2.2.1,y.1.2.2.2.2.1,y.1.2.2.2.2.2.1,(IntKind.i64.wrap ((IntKind.i64.wrap a)+(1:Int))),y.1.2.2.2.2.2.2.2.1,()),(y.2.1.1,y.2.1.2.1,y.2.1.2.2.1,y.2.1.2.2.2.1,()),()))
else
 some (.inl ((y.1.1,(),(),y.1.2.2.2.1,y.1.2.2.2.2.1,y.1.2.2.2.2.2.1,y.1.2.2.2.2.2.2.1,(IntKind.i64.wrap a),()),(y.2.1.1,y.2.1.2.1,y.2.1.2.2.1,y.2.1.2.2.2.1,()),()))
else
 some (.inr ((y.1.1,(),(),y.1.2.2.2.1,y.1.2.2.2.2.1,y.1.2.2.2.2.2.1,y.1.2.2.2.2.2.2.1,()),(y.2.1.1,y.2.1.2.1,y.2.1.2.2.1,y.2.1.2.2.2.1,()),()))
noncomputable def xB:xp.F->Option (aA D2):=bo xD
theorem agm:aT O (an (codeOf Tryz.f234) 1 60) (aU xp D2 xB):=bE Ue (by kernel_rfl) af fun y=>by kernel_rfl
abbrev Tq:Shape:=⟨[aK 0 .entry,b5 1 [ah,aX,aX,ah],(2,.am (.fn 235 []))],[],49⟩
abbrev SX:Shape:=⟨[ag 6,ap 7],[],49⟩
noncomputable def AO(a:Tq.F):Option SX.F:=
(xB ((a.1.1,(),(),(0:Int),false,(a.1.1.length:Int),(0:Int),(a.1.1.length:Int),()),(a.1.2.1.1,a.1.2.1.2.1,a.1.2.1.2.2.1,a.1.2.1.2.2.2.1,()),())).bind fun b=>
 bif(decide (b.1.2.2.2.2.2.2.1<b.1.2.2.2.2.2.1)) then
(aN b.1.1 b.1.2.2.2.2.2.2.1).bind fun c=>
(f235 (((c.path,c.kind,c.mode,c.text,()),(b.2.1.1,b.2.1.2.1,b.2.1.2.2.1,b.2.1.2.2.2.1,()),()),())).bind fun d=>
 some ((b.1.2.2.2.2.2.2.1,(d.1.1==(0:Int)),()),())
else
 some ((b.1.2.2.2.2.2.2.1,false,()),())
noncomputable def T1:aB:=aG ad Tryz.f234 Tq SX [] AO
theorem alU:ay O 234 T1:=aJ Ue Tryz.func234 (by kernel_rfl) (a6 agm af) (fun y=>by kernel_rfl) fun a=>by kernel_rfl
noncomputable abbrev aso:a7:=[(234,T1)]
theorem atD:aQ O (aY ad aso):=aV ⟨alU,⟨⟩⟩
abbrev i201:Shape:=⟨[aK 0 .entry,ak 1],[],12⟩
abbrev Wa:Shape:=⟨[ag 4,ap 5],[],12⟩
noncomputable def f201(a:i201.F):Option Wa.F:=
(AO ((a.1.1,(a.1.2.1,(0:Int),(0:Int),([]:J),()),(),()),())).bind fun b=>
 some ((b.1.1,b.1.2.1,()),())
noncomputable def JM:aB:=aG ad Tryz.f201 i201 Wa [] f201
theorem z201:ay O 201 JM:=aJ atD Tryz.func201 (by kernel_rfl) af (fun y=>by kernel_rfl) fun a=>by kernel_rfl
theorem uJ:∀a:J,Op.bytesLess a a=false:=by
 intro a;induction a with
 |nil=>rfl
 |cons b r ih=>simp[Op.bytesLess,ih]
theorem t_:∀a b c:J,Op.bytesLess a b=true->Op.bytesLess b c=true->Op.bytesLess a c=true:=by
 intro a;induction a with
 |nil=>intro b c h1 h2;cases c with
  |nil=>cases b<;>simp[Op.bytesLess] at h2
  |cons z c=>rfl
 |cons x a ih=>
  intro b c h1 h2;cases b with
  |nil=>simp[Op.bytesLess] at h1
  |cons y b=>
   cases c with
   |nil=>simp[Op.bytesLess] at h2
   |cons z c=>
    simp only[Op.bytesLess,Bool.or_eq_true,decide_eq_true_eq,Bool.and_eq_true,beq_iff_eq] at h1 h2 ⊢;rcases h1 with h1|⟨rfl,h1⟩
    ·rcases h2 with h2|⟨rfl,h2⟩
     ·exact .inl (UInt8.lt_trans h1 h2)
     ·exact .inl h1
    ·rcases h2 with h2|⟨rfl,h2⟩
     ·exact .inl h2
     ·exact .inr ⟨rfl,ih b c h1 h2⟩
theorem anm:∀a b:J,Op.bytesLess a b=false->(a==b)=false->Op.bytesLess b a=true:=by
 intro a;induction a with
 |nil=>intro b h1 h2;cases b with
  |nil=>simp at h2
  |cons y b=>simp[Op.bytesLess] at h1
 |cons x a ih=>
  intro b h1 h2;cases b with
  |nil=>rfl
  |cons y b=>
   simp only[Op.bytesLess,Bool.or_eq_false_iff,decide_eq_false_iff_not,Bool.and_eq_false_iff,beq_eq_false_iff_ne,ne_eq] at h1;simp only[Op.bytesLess,Bool.or_eq_true,decide_eq_true_eq,Bool.and_eq_true,beq_iff_eq];by_cases hxy:x=y
   ·subst hxy;refine .inr ⟨rfl,ih b ?_ ?_⟩
    ·rcases h1.2 with h|h
     ·exact absurd rfl h
     ·exact h
    ·cases h:(a==b) with
     |false=>rfl
     |true=>rw[eq_of_beq h] at h2;simp at h2
   ·exact .inl (by
     have:=h1.1;rcases UInt8.lt_or_lt_of_ne (fun h=>hxy h) with h|h
     ·exact absurd h this
     ·exact h)
theorem alH{a b:J}(h:Op.bytesLess a b=true):Op.bytesLess b a=false:=by
 cases h2:Op.bytesLess b a with
 |false=>rfl
 |true=>have:=t_ a b a h h2;rw[uJ] at this;cases this
theorem apc{a b:J}(h:Op.bytesLess a b=true):(a==b)=false:=by
 cases h2:(a==b) with
 |false=>rfl
 |true=>rw[eq_of_beq h2,uJ] at h;cases h
theorem alG:∀(s:J) (i:Nat),i<s.length->Op.bytesLess (s.take i) s=true:=by
 intro s;induction s with
 |nil=>intro i h;simp at h
 |cons b r ih=>
  intro i h;cases i with
  |zero=>rfl
  |succ i=>simp only[List.take_succ_cons,Op.bytesLess];simp[ih i (by simpa using h)]
def kP(c:UInt8)(s:J):Nat->Option Nat
 |0=>none
 |n+1=>match s[n]? with
  |some b=>bif(b.toNat:Int)==(c.toNat:Int) then some n else kP c s n
  |none=>none
theorem MN{c:UInt8}{s:J}:∀{n i:Nat},kP c s n=some i->i<n/\i<s.length:=by
 intro n;induction n with
 |zero=>intro i h;cases h
 |succ n ih=>
  intro i h;simp only[kP] at h;split at h
  ·rename_i b hb;cases hc:((b.toNat:Int)==(c.toNat:Int)) with
   |true=>rw[hc] at h;cases h;exact⟨Nat.lt_succ_self _,cD hb⟩
   |false=>rw[hc] at h;have:=ih h;omega
  ·cases h
def iw(s:J):J:=match kP 47 s s.length with
 |some i=>s.take i
 |none=>[]
theorem ahN{s:J}(h:(iw s==[])=false):Op.bytesLess (iw s) s=true:=by
 unfold iw at h ⊢;split
 ·rename_i i hi;exact alG s i (MN hi).2
 ·rename_i hi;rw[hi] at h;cases h
theorem Sn(a)(hs:b9 a.1.1.length):f145 a=some ((iw a.1.1,()),()):=by
 obtain⟨⟨s,u⟩,bT⟩:=a;have hs:s.length<=2097152:=hs;have key:∀n,n<=s.length->G0 ((s,((n:Int)-1,())),())=some (match kP 47 s n with|some i=>.inl ((s.take i,()),())|none=>.inr ((),())):=by
  intro n;induction n with
  |zero=>intro _;exact de (by rfl)
  |succ n ih=>
   intro hn;have e:((n+1:Nat):Int)-1=(n:Int):=by omega
   obtain⟨b,hb⟩:∃b,s[n]? =some b:=⟨s[n],List.getElem?_eq_getElem hn⟩;have h0:decide ((n:Int)>=0)=true:=by simp
   rw[e];simp only[kP,hb];cases hc:((b.toNat:Int)==((47:UInt8).toNat:Int)) with
   |true=>
    refine de ?_
    simp only[Ho,h0,cond_true,bY,hb,Option.bind_some];rw[show((b.toNat:Int)==47)=true from hc,ii (by omega)]
    rfl
   |false=>
    refine(fc ?_).trans (ih (by omega))
    simp only[Ho,h0,cond_true,bY,hb,Option.bind_some];rw[show((b.toNat:Int)==47)=false from hc,cM (by omega) (by omega)]
    rfl
 have hw:IntKind.i64.wrap ((s.length:Int)-1)=(s.length:Int)-1:=cM (by omega) (by omega)
 simp only[f145,hw,key s.length (Nat.le_refl _),Option.bind_some,iw];cases kP 47 s s.length<;>rfl
theorem adA(a)(hs:b9 a.1.1.length)(awA:a.1.2.1=47):f267 a=some (((match kP 47 a.1.1 a.1.1.length with|some i=>(i:Int)|none=>-1),()),()):=by
 obtain⟨⟨s,c,u⟩,bT⟩:=a;obtain rfl:c=47:=awA;have hs:s.length<=2097152:=hs;have key:∀n,n<=s.length->GM ((s,((47:Int),((n:Int)-1,()))),())=some (match kP 47 s n with|some i=>.inl (((i:Int),()),())|none=>.inr ((),())):=by
  intro n;induction n with
  |zero=>intro _;exact de (by rfl)
  |succ n ih=>
   intro hn;have e:((n+1:Nat):Int)-1=(n:Int):=by omega
   obtain⟨b,hb⟩:∃b,s[n]? =some b:=⟨s[n],List.getElem?_eq_getElem hn⟩;have h0:decide ((n:Int)>=0)=true:=by simp
   rw[e];simp only[kP,hb];cases hc:((b.toNat:Int)==((47:UInt8).toNat:Int)) with
   |true=>
    refine de ?_
    simp only[Hi,h0,cond_true,bY,hb,Option.bind_some];rw[show((b.toNat:Int)==47)=true from hc]
    rfl
   |false=>
    refine(fc ?_).trans (ih (by omega))
    simp only[Hi,h0,cond_true,bY,hb,Option.bind_some];rw[show((b.toNat:Int)==47)=false from hc,cM (by omega) (by omega)]
    rfl
 have hw:IntKind.i64.wrap ((s.length:Int)-1)=(s.length:Int)-1:=cM (by omega) (by omega)
 simp only[f267,hw,key s.length (Nat.le_refl _),Option.bind_some];cases kP 47 s s.length<;>rfl
theorem ahI(a)(hs:b9 a.1.1.length):f200 a=some (((bif fQ a.1.1 then iw a.1.1 else []),()),()):=by
 obtain⟨⟨s,u⟩,bT⟩:=a;have hs:s.length<=2097152:=hs;have e1:=EN ((s,()),()) hs;have e2:=adA ((s,((47:Int),())),()) hs rfl;simp only[f200,e1,Option.bind_some,f233,e2];cases fQ s with
 |false=>rfl
 |true=>
  simp only[Bool.not_true,cond_false,cond_true];unfold iw;cases hl:kP 47 s s.length with
  |none=>
   have:gp (-1) 0=0:=by decide
   simp only[this];have:=ii (xs:=s) (b:=0) (Nat.zero_le _);have this:bu s 0 0=some (s.take 0):=this;rw[this];rfl
  |some i=>
   have hi:=(MN hl).2;have:gp (i:Int) 0=(i:Int):=by unfold gp;rw[if_neg (by omega)]
   simp only[this];rw[ii (by omega)];rfl
def bK(t:List az)(p:J):Nat:=(t.takeWhile fun e=>Op.bytesLess e.path p).length
def gm(t:List az)(p:J):Bool:=match t[bK t p]? with
 |some e=>e.path==p
 |none=>false
def kf(t:List az)(p:J):Bool:=p==[]||match t[bK t p]? with
 |some e=>e.path==p&&e.kind==1
 |none=>false
theorem pO(t:List az)(p:J):bK t p<=t.length:=(List.takeWhile_prefix _).length_le
theorem HB(a)(hs:b9 a.1.1.length):f194 a=some (((bK a.1.1 a.1.2.1:Int),(gm a.1.1 a.1.2.1,())),()):=by
 obtain⟨⟨t,p,u⟩,bT⟩:=a;have hs:t.length<=2097152:=hs;have key:GR ((t,(p,((0:Int),(false,((0:Int),()))))),())=_:=Ei zt t (fun i (_:Unit)=>((t,(p,((0:Int),(false,((i:Int),()))))),()))
  (fun i e _=>some (bif Op.bytesLess e.path p then .inl () else .inr ((((t,(p,((0:Int),(false,((i:Int),()))))),())):aA rD))) (fun _=>((t,(p,((0:Int),(false,((t.length:Int),()))))),())) (fun i e s he=>?_) (fun s=>?_) ()
 ·have fold:∀(r:List az) (k:Nat),k+r.length=t.length->eF (fun i (e:az) (_:Unit)=>some (bif Op.bytesLess e.path p then .inl () else .inr ((((t,(p,((0:Int),(false,((i:Int),()))))),())):aA rD))) (fun _=>(((t,(p,((0:Int),(false,((t.length:Int),()))))),()):aA rD)) k r ()=
    some ((t,(p,((0:Int),(false,(((k+(r.takeWhile fun e=>Op.bytesLess e.path p).length:Nat):Int),()))))),()):=by
   intro r;induction r with
   |nil=>intro k hk;simp only[eF,List.takeWhile_nil,List.length_nil,Nat.add_zero] at hk ⊢;rw[hk]
   |cons e r ih=>
    intro k hk;simp only[eF,List.takeWhile_cons];cases hl:Op.bytesLess e.path p with
    |false=>rfl
    |true=>
     simp only[cond_true,if_true,List.length_cons];rw[ih (k+1) (by simp only[List.length_cons] at hk;omega)]
     have:k+1+(r.takeWhile fun e=>Op.bytesLess e.path p).length=k+((r.takeWhile fun e=>Op.bytesLess e.path p).length+1):=by omega
     rw[this]
  rw[fold t 0 (Nat.zero_add _),Nat.zero_add] at key;have hk:(t.takeWhile fun e=>Op.bytesLess e.path p).length=bK t p:=rfl
  rw[hk] at key;simp only[f194,key,Option.bind_some,gm,bY];cases aw:t[bK t p]? with
  |none=>
   have:=List.getElem?_eq_none_iff.1 aw;have:decide ((bK t p:Int)<(t.length:Int))=false:=by simp only[decide_eq_false_iff_not];omega
   rw[this];rfl
  |some e=>rw[cq (cD aw)];rfl
 ·have hi:=cD he;have hw:ax i:=by unfold ax;omega
  simp only[zt,cq hi,cond_true,bY,he,Option.bind_some,b4 hw];cases Op.bytesLess e.path p<;>rfl
 ·simp only[zt,dd,cond_false]
theorem QE(a)(hs:b9 a.1.1.length):f144 a=some ((kf a.1.1 a.1.2.1,()),()):=by
 obtain⟨⟨t,p,u⟩,bT⟩:=a;have e1:=HB ((t,(p,())),()) hs;simp only[f144,e1,Option.bind_some,kf,gm,bY];cases (p==[]) with
 |true=>rfl
 |false=>
  cases aw:t[bK t p]? with
  |none=>rfl
  |some e=>simp only[Bool.not_false,cond_true,Option.bind_some,Bool.false_or];cases (e.path==p)<;>rfl
def fm(t:List az):Prop:=t.Pairwise fun a b=>Op.bytesLess a.path b.path=true
theorem fm.take{t:List az}(h:fm t)(i:Nat):fm (t.take i):=List.Pairwise.sublist (List.take_sublist i t) h
theorem j9:∀{t:List az} {p:J},fm t->∀(h:Nat) (e:az),t[h]? =some e->Op.bytesLess e.path p=decide (h<bK t p):=by
 intro t p;induction t with
 |nil=>intro _ h e he;simp at he
 |cons x t ih=>
  intro ha h e he;have iY:=List.pairwise_cons.1 ha;unfold bK;rw[List.takeWhile_cons];cases hx:Op.bytesLess x.path p with
  |true=>
   simp only[if_true,List.length_cons];cases h with
   |zero=>simp only[List.getElem?_cons_zero,Option.some.injEq] at he;subst he;rw[hx];simp
   |succ h=>
    simp only[List.getElem?_cons_succ] at he;rw[ih iY.2 h e he];unfold bK;congr 1;apply propext;omega
  |false=>
   have:(decide (h<(if false=true then x::t.takeWhile (fun e=>Op.bytesLess e.path p) else []).length))=false:=by simp
   rw[this];cases h with
   |zero=>simp only[List.getElem?_cons_zero,Option.some.injEq] at he;subst he;exact hx
   |succ h=>
    simp only[List.getElem?_cons_succ] at he;have h2:=iY.1 e (List.mem_of_getElem? he);cases h3:Op.bytesLess e.path p with
    |false=>rfl
    |true=>have:=t_ _ _ _ h2 h3;rw[hx] at this;cases this
def sQ(a b:J):Int:=bif Op.bytesLess a b then-1 else bif a==b then 0 else 1
theorem EL(a):f235 a=some ((sQ a.1.1.1 a.1.2.1.1,()),()):=by
 obtain⟨⟨⟨p,fH⟩,⟨⟨q,fv⟩,i_⟩⟩,aby⟩:=a;have h1:(p==p)=true:=by simp
 have h2:(q==q)=true:=by simp
 simp only[f235,f268,f283,Option.bind_some,h1,h2,Bool.not_true,cond_false,sQ];cases Op.bytesLess p q<;>cases (p==q)<;>rfl
theorem Qy(a b:J):decide (sQ a b<0)=Op.bytesLess a b:=by
 unfold sQ;cases Op.bytesLess a b<;>cases (a==b)<;>rfl
theorem ahi(a b:J):(sQ a b==0)=(a==b):=by
 unfold sQ;cases h:Op.bytesLess a b with
 |true=>rw[apc h];rfl
 |false=>cases (a==b)<;>rfl
theorem aqN{n:Nat}(h:n<=1099511627776):eZ .u64 (IntKind.u64.wrap (IntKind.i64.wrap (n:Int))) 1=some (((n/2:Nat)):Int):=by
 rw[cM (by omega) (by omega)]
 have:IntKind.u64.wrap (n:Int)=(n:Int):=by
  simp[IntKind.wrap,IntKind.bits,IntKind.signed];omega
 rw[this];unfold eZ;rw[if_neg (by decide)]
 congr 1
 show Int.fdiv (n:Int) 2=_;rw[Int.fdiv_eq_ediv_of_nonneg _ (by decide)]
 omega
theorem MU(a)(hs:b9 a.1.1.length)(ha:fm a.1.1):f201 a=some (((bK a.1.1 a.1.2.1:Int),(gm a.1.1 a.1.2.1,())),()):=by
 obtain⟨⟨t,p,u⟩,bT⟩:=a;have hs:t.length<=2097152:=hs;have ayX:=pO t p;have key:∀d i j:Nat,j-i=d->i<=bK t p->bK t p<=j->j<=t.length->
   xB ((t,((),((),((0:Int),(false,((t.length:Int),((i:Int),((j:Int),())))))))),((p,((0:Int),((0:Int),(([]:J),())))),()))=
    some (((t,((),((),((0:Int),(false,((t.length:Int),((bK t p:Int),()))))))),((p,((0:Int),((0:Int),(([]:J),())))),()))):=by
  intro d;induction d using Nat.strongRecOn with
  |_ d ih=>
   intro i j Z hi hj hl;by_cases pa:i<j
   ·have bJ:(i+j)/2<t.length:=by omega
    obtain⟨e,he⟩:∃e,t[(i+j)/2]? =some e:=⟨t[(i+j)/2],List.getElem?_eq_getElem bJ⟩;have hsh:eZ .u64 (IntKind.u64.wrap (IntKind.i64.wrap ((i:Int)+(j:Int)))) 1=some ((((i+j)/2:Nat)):Int):=by
     rw[<-aqN (n:=i+j) (by omega)];rw[Int.natCast_add]
    have _6:IntKind.i64.wrap (((i+j)/2:Nat):Int)=(((i+j)/2:Nat):Int):=cM (by omega) (by omega)
    have nR:=j9 (t:=t) (p:=p) ha ((i+j)/2) e he;cases hb:Op.bytesLess e.path p with
    |true=>
     rw[hb] at nR;have hlt:(i+j)/2<bK t p:=by simpa using nR.symm
     refine(fc ?_).trans (ih (j-((i+j)/2+1)) (by omega) ((i+j)/2+1) j rfl (by omega) hj hl)
     simp only[xD,cq pa,cond_true,hsh,_6,bY,he,Option.bind_some,EL,Qy,hb,b4 (i:=(i+j)/2) (by unfold ax;omega)]
    |false=>
     rw[hb] at nR;have hge:¬(i+j)/2<bK t p:=by simpa using nR.symm
     refine(fc ?_).trans (ih ((i+j)/2-i) (by omega) i ((i+j)/2) rfl hi (by omega) (by omega))
     simp only[xD,cq pa,cond_true,hsh,_6,bY,he,Option.bind_some,EL,Qy,hb,cond_false]
   ·have iX:i=bK t p:=by omega
    have hlt:decide ((i:Int)<(j:Int))=false:=by simp only[decide_eq_false_iff_not];omega
    refine de ?_
    simp only[xD,hlt,cond_false];rw[iX]
 have ly:xB ((t,((),((),((0:Int),(false,((t.length:Int),((0:Int),((t.length:Int),())))))))),((p,((0:Int),((0:Int),(([]:J),())))),()))=_:=key t.length 0 t.length (Nat.sub_zero _) (Nat.zero_le _) ayX (Nat.le_refl _);have Y:AO ((t,((p,((0:Int),((0:Int),(([]:J),())))),((),()))),())=some (((bK t p:Int),(gm t p,())),()):=by
  simp only[AO,ly,Option.bind_some,gm,bY,EL,ahi];cases aw:t[bK t p]? with
  |none=>
   have:=List.getElem?_eq_none_iff.1 aw;have:decide ((bK t p:Int)<(t.length:Int))=false:=by simp only[decide_eq_false_iff_not];omega
   rw[this];rfl
  |some e=>rw[cq (cD aw)];rfl
 simp only[f201,Y,Option.bind_some]
noncomputable abbrev asN:a7:=[(200,Yt),(201,JM)]
theorem atN:aQ O (aY ad asN):=aV ⟨apU,z201,⟨⟩⟩
abbrev i153:Shape:=⟨[aK 0 .entry,ak 1],[],27⟩
abbrev WJ:Shape:=⟨[ap 4],[],27⟩
noncomputable def f153(a:i153.F):Option WJ.F:=
(f200 ((a.1.2.1,()),())).bind fun b=>
 bif(b.1.1==([]:J)) then
 some ((true,()),())
else
(f201 ((a.1.1,b.1.1,()),())).bind fun c=>
 bif c.1.2.1 then
(aN a.1.1 c.1.1).bind fun d=>
 some (((d.kind==(1:Int)),()),())
else
 some ((false,()),())
noncomputable def YV:aB:=aG ad Tryz.f153 i153 WJ [] f153
theorem aqe:ay O 153 YV:=aJ atN Tryz.func153 (by kernel_rfl) af (fun y=>by kernel_rfl) fun a=>by kernel_rfl
noncomputable abbrev atk:a7:=[(152,YW),(153,YV)]
theorem Kc:aQ O (aY ad atk):=aV ⟨z152,aqe,⟨⟩⟩
abbrev OP:Shape:=⟨[aK 0 .entry,ag 3,au 4 4 0,aK 8 .entry,ag 9,ag 10],[ar 4 [ah,aX,aX,ah]],43⟩
abbrev Ow:List aO:=[(.norm,⟨[aK 0 .entry,aK 8 .entry,ag 9,ag 10,b5 15 [ah,aX,aX,ah],ap 16,ap 17,ap 18,ap 32,ap 33,ap 41],[],43⟩)]
noncomputable def ED(y:OP.F):Option (aA Ow):=
(f152 (((y.2.1.1,y.2.1.2.1,y.2.1.2.2.1,y.2.1.2.2.2.1,()),()),())).bind fun a=>
 bif(!a.1.1) then
 some ((y.1.1,y.1.2.2.2.1,y.1.2.2.2.2.1,y.1.2.2.2.2.2.1,(y.2.1.1,y.2.1.2.1,y.2.1.2.2.1,y.2.1.2.2.2.1,()),a.1.1,(!a.1.1),true,true,true,true,()),())
else
 bif(decide (y.1.2.1>(0:Int))) then
(aN y.1.1 (IntKind.i64.wrap (y.1.2.1-(1:Int)))).bind fun b=>
 bif(!(Op.bytesLess b.path y.2.1.1)) then
 some ((y.1.1,y.1.2.2.2.1,y.1.2.2.2.2.1,y.1.2.2.2.2.2.1,(y.2.1.1,y.2.1.2.1,y.2.1.2.2.1,y.2.1.2.2.2.1,()),a.1.1,(!a.1.1),false,(!(Op.bytesLess b.path y.2.1.1)),true,true,()),())
else
(bu y.1.1 (0:Int) y.1.2.1).bind fun c=>
(f153 ((c,y.2.1.1,()),())).bind fun d=>
 some ((y.1.1,y.1.2.2.2.1,y.1.2.2.2.2.1,y.1.2.2.2.2.2.1,(y.2.1.1,y.2.1.2.1,y.2.1.2.2.1,y.2.1.2.2.2.1,()),a.1.1,(!a.1.1),false,(!(Op.bytesLess b.path y.2.1.1)),false,(!d.1.1),()),())
else
(bu y.1.1 (0:Int) y.1.2.1).bind fun e=>
(f153 ((e,y.2.1.1,()),())).bind fun f=>
 some ((y.1.1,y.1.2.2.2.1,y.1.2.2.2.2.1,y.1.2.2.2.2.2.1,(y.2.1.1,y.2.1.2.1,y.2.1.2.2.1,y.2.1.2.2.2.1,()),a.1.1,(!a.1.1),false,false,false,(!f.1.1),()),())
theorem agE:aT O (an (cN (an (codeOf Tryz.f105) 1 58)) 116 7474) (aU OP Ow ED):=b8 Kc (by kernel_rfl) af fun y=>by kernel_rfl
abbrev zd:Shape:=⟨[aK 0 .entry,aK 8 .entry,ag 9,ag 10],[],43⟩
abbrev uc:List aO:=[(.ret,⟨[ap 2],[],43⟩),(.exit 0,⟨[],[],43⟩)]
noncomputable def zL(y:zd.F):bD zd uc:=
 bif(decide (y.1.2.2.2.1<y.1.2.2.1)) then
(aN y.1.2.1 y.1.2.2.2.1).bind fun a=>
(ED ((y.1.1,y.1.2.2.2.1,(),y.1.2.1,y.1.2.2.1,y.1.2.2.2.1,()),(a.path,a.kind,a.mode,a.text,()),())).bind fun b=>
 bif b.1.2.2.2.2.2.2.2.2.2.2.1 then
 some (.inr (.inl ((false,()),())))
else
 some (.inl ((b.1.1,b.1.2.1,b.1.2.2.1,(IntKind.i64.wrap (b.1.2.2.2.1+(1:Int))),()),()))
else
 some (.inr (.inr ((),())))
noncomputable def G9:zd.F->Option (aA uc):=bo zL
theorem ak4:aT O (an (codeOf Tryz.f105) 1 58) (aU zd uc G9):=bE Kc (by kernel_rfl) (a6 agE af) fun y=>by kernel_rfl
abbrev i105:Shape:=⟨[aK 0 .entry],[],43⟩
abbrev Xj:Shape:=⟨[ap 2],[],43⟩
noncomputable def f105(a:i105.F):Option Xj.F:=
 bif(decide ((a.1.1.length:Int)>(16:Int))) then
 some ((false,()),())
else
(G9 ((a.1.1,a.1.1,(a.1.1.length:Int),(0:Int),()),())).bind fun b=>
(match b with
|.inl c=>
 some ((c.1.1,()),())
|.inr d=>
 some ((true,()),()))
noncomputable def vu:aB:=aG ad Tryz.f105 i105 Xj [] f105
theorem z105:ay O 105 vu:=aJ Kc Tryz.func105 (by kernel_rfl) (a6 ak4 af) (fun y=>by kernel_rfl) fun a=>by kernel_rfl
noncomputable abbrev axn:a7:=[(143,JX),(144,JW),(145,JV)]
theorem CS:aQ O (aY ad axn):=aV ⟨z143,Vl,z145,⟨⟩⟩
abbrev Q3:Shape:=⟨[aK 0 .entry,ag 3],[],53⟩
abbrev QJ:List aO:=[(.norm,⟨[aK 0 .entry,ag 3,aK 11 .entry,ag 12,(13,.am (.er [.str,.int .i64,.int .i64,.str] 0)),b5 14 [ah,aX,aX,ah],ap 15,ap 16,ap 17,ap 34],[],53⟩)]
noncomputable def He(y:Q3.F):Option (aA QJ):=
(aN y.1.1 y.1.2.1).bind fun a=>
(f143 (((a.path,a.kind,a.mode,a.text,()),()),())).bind fun b=>
 bif(!b.1.1) then
 some ((y.1.1,y.1.2.1,y.1.1,y.1.2.1,(a.path,a.kind,a.mode,a.text,()),(a.path,a.kind,a.mode,a.text,()),b.1.1,(!b.1.1),true,true,()),())
else
 bif(decide (y.1.2.1>(0:Int))) then
(aN y.1.1 (IntKind.i64.wrap (y.1.2.1-(1:Int)))).bind fun c=>
(aN y.1.1 y.1.2.1).bind fun d=>
 some ((y.1.1,y.1.2.1,y.1.1,y.1.2.1,(a.path,a.kind,a.mode,a.text,()),(a.path,a.kind,a.mode,a.text,()),b.1.1,(!b.1.1),false,(!(Op.bytesLess c.path d.path)),()),())
else
 some ((y.1.1,y.1.2.1,y.1.1,y.1.2.1,(a.path,a.kind,a.mode,a.text,()),(a.path,a.kind,a.mode,a.text,()),b.1.1,(!b.1.1),false,false,()),())
theorem aj1:aT O (an (cN (an (codeOf Tryz.f90) 1 26)) 52 840) (aU Q3 QJ He):=b8 CS (by kernel_rfl) af fun y=>by kernel_rfl
abbrev z':Shape:=⟨[aK 0 .entry,ag 3],[],53⟩
abbrev HG:List aO:=[(.ret,⟨[ap 2],[],53⟩),(.exit 0,⟨[aK 0 .entry],[],53⟩)]
noncomputable def AB(y:z'.F):bD z' HG:=
 bif(decide (y.1.2.1<(y.1.1.length:Int))) then
(He ((y.1.1,y.1.2.1,()),())).bind fun a=>
 bif a.1.2.2.2.2.2.2.2.2.2.1 then
 some (.inr (.inl ((false,()),())))
else
 some (.inl ((a.1.1,(IntKind.i64.wrap (a.1.2.1+(1:Int))),()),()))
else
 some (.inr (.inr ((y.1.1,()),())))
noncomputable def H3:z'.F->Option (aA HG):=bo AB
theorem amt:aT O (an (codeOf Tryz.f90) 1 26) (aU z' HG H3):=bE CS (by kernel_rfl) (a6 aj1 af) fun y=>by kernel_rfl
abbrev z_:Shape:=⟨[aK 0 .entry,ag 4],[],53⟩
abbrev HF:List aO:=[(.ret,⟨[ap 2],[],53⟩),(.exit 2,⟨[aK 0 .entry],[],53⟩)]
noncomputable def AA(y:z_.F):bD z_ HF:=
 bif(decide (y.1.2.1<(y.1.1.length:Int))) then
(aN y.1.1 y.1.2.1).bind fun a=>
(f145 ((a.path,()),())).bind fun b=>
(f144 ((y.1.1,b.1.1,()),())).bind fun c=>
 bif(!c.1.1) then
 some (.inr (.inl ((false,()),())))
else
 some (.inl ((y.1.1,(IntKind.i64.wrap (y.1.2.1+(1:Int))),()),()))
else
 some (.inr (.inr ((y.1.1,()),())))
noncomputable def H2:z_.F->Option (aA HF):=bo AA
theorem ams:aT O (an (codeOf Tryz.f90) 1 58) (aU z_ HF H2):=bE CS (by kernel_rfl) af fun y=>by kernel_rfl
abbrev i90:Shape:=⟨[aK 0 .entry],[],53⟩
abbrev _a:Shape:=⟨[ap 2],[],53⟩
noncomputable def f90(a:i90.F):Option _a.F:=
(H3 ((a.1.1,(0:Int),()),())).bind fun b=>
(match b with
|.inl c=>
 some ((c.1.1,()),())
|.inr d=>
(H2 ((d.1.1,(0:Int),()),())).bind fun e=>
(match e with
|.inl f=>
 some ((f.1.1,()),())
|.inr g=>
 some (((decide ((g.1.1.length:Int)<=(16:Int))),()),())))
noncomputable def wj:aB:=aG ad Tryz.f90 i90 _a [] f90
theorem B_:ay O 90 wj:=aJ CS Tryz.func90 (by kernel_rfl) (a6 amt (a6 ams af)) (fun y=>by kernel_rfl) fun a=>by kernel_rfl
theorem ael{aI:Type}{ok l3:Nat->aI->Bool}:∀(xs:List aI) (j:Nat),(∀i x,xs[i]? =some x->ok (j+i) x=l3 (j+i) x)->allI ok j xs=allI l3 j xs:=by
 intro xs;induction xs with
 |nil=>intro j _;rfl
 |cons x r ih=>
  intro j h;simp only[allI];rw[show ok j x=l3 j x from h 0 x rfl,ih (j+1) (fun i y hy=>by have:=h (i+1) y (by simpa using hy);rw[show j+(i+1)=j+1+i by omega] at this;exact this)]
theorem ys{aI:Type}{ok:Nat->aI->Bool}:∀(xs:List aI) (j:Nat),allI ok j xs=true->∀i x,xs[i]? =some x->ok (j+i) x=true:=by
 intro xs;induction xs with
 |nil=>intro j _ i x h;simp at h
 |cons y r ih=>
  intro j h i x hx;simp only[allI,Bool.and_eq_true] at h;cases i with
  |zero=>simp only[List.getElem?_cons_zero,Option.some.injEq] at hx;subst hx;exact h.1
  |succ i=>have:=ih (j+1) h.2 i x (by simpa using hx);rwa[show j+1+i=j+(i+1) by omega] at this
abbrev iu(t:List az):Prop:=b9 t.length/\∀e,e∈t->ls e
def uz(t:List az)(i:Nat)(e:az):Bool:=i==0||match t[i-1]? with
 |some q=>Op.bytesLess q.path e.path
 |none=>false
def io(t:List az)(i:Nat)(e:az):Bool:=eN e&&uz t i e
def dC(t:List az):Bool:=allI (io t) 0 t&&t.all (fun e=>kf t (iw e.path))&&decide (t.length<=16)
theorem BP(i:Nat):decide ((i:Int)>0)=!(i==0):=by
 cases i with
 |zero=>rfl
 |succ i=>simp
theorem EM(a)(hs:iu a.1.1):f90 a=some ((dC a.1.1,()),()):=by
 obtain⟨⟨t,u⟩,bT⟩:=a;obtain⟨hl,he⟩:=hs;have hl:t.length<=2097152:=hl;have key:H3 ((t,((0:Int),())),())=some (bif allI (io t) 0 t then .inr ((t,()),()) else .inl ((false,()),())):=by
  refine fy AB t (fun i=>((t,((i:Int),())),())) _ _ _ (fun i x hx=>?_) ?_
  ·have hi:=cD hx;have hw:ax i:=by unfold ax;omega
   have hb:=he x (List.mem_of_getElem? hx);simp only[AB,cq hi,cond_true,He,bY,hx,Option.bind_some];rw[N8 _ hb.1 hb.2];simp only[Option.bind_some,io,BP];cases eN x with
   |false=>rfl
   |true=>
    simp only[Bool.not_true,cond_false,Bool.true_and,uz];cases i with
    |zero=>simp only[beq_self_eq_true,Bool.not_true,cond_false,Option.bind_some,Bool.true_or,cond_true,b4 hw]
    |succ i=>
     have h0:(i+1==0)=false:=rfl;have iX:i<t.length:=by omega
     obtain⟨q,aC⟩:∃q,t[i]? =some q:=⟨t[i],List.getElem?_eq_getElem iX⟩;simp only[h0,Bool.not_false,cond_true,tO (i:=i) (by unfold ax;omega),bY,aC,hx,Option.bind_some,Bool.false_or,Nat.add_sub_cancel]
     cases Op.bytesLess q.path x.path with
     |false=>rfl
     |true=>simp only[Bool.not_true,cond_false,cond_true,b4 hw]
  ·simp only[AB,dd,cond_false]
 have Xp:H2 ((t,((0:Int),())),())=some (bif allI (fun _ e=>kf t (iw e.path)) 0 t then .inr ((t,()),()) else .inl ((false,()),())):=by
  refine fy AA t (fun i=>((t,((i:Int),())),())) _ _ _ (fun i x hx=>?_) ?_
  ·have hi:=cD hx;have hw:ax i:=by unfold ax;omega
   have hb:=he x (List.mem_of_getElem? hx);simp only[AA,cq hi,cond_true,bY,hx,Option.bind_some];rw[Sn _ hb.1];simp only[Option.bind_some];rw[QE _ hl];simp only[Option.bind_some,b4 hw];cases kf t (iw x.path)<;>rfl
  ·simp only[AA,dd,cond_false]
 rw[gz] at Xp;simp only[f90,key,Option.bind_some,dC];cases allI (io t) 0 t with
 |false=>rfl
 |true=>
  simp only[cond_true,Xp,Option.bind_some,Bool.true_and];cases List.all t (fun e=>kf t (iw e.path)) with
  |false=>rfl
  |true=>have:=BF t.length 16;simp only[cond_true,Bool.true_and];rw[<-this];rfl
theorem QC{t:List az}{i:Nat}{e:az}(he:t[i]? =some e)(h:fm (t.take i))(hl:uz t i e=true):fm (t.take (i+1)):=by
 rw[List.take_add_one,he];unfold fm;refine List.pairwise_append.2 ⟨h,by simp,?_⟩
 intro a ha b hb;have hb:b=e:=by simpa using hb
 subst hb;obtain⟨k,hk⟩:=List.mem_iff_getElem?.1 ha;have CC:k<i:=by
  have:=cD hk;rw[List.length_take] at this;omega
 unfold uz at hl;have h0:(i==0)=false:=by simp;omega
 rw[h0,Bool.false_or] at hl;split at hl
 ·rename_i q aC;by_cases hkl:k=i-1
  ·have:t[k]? =some a:=by rw[List.getElem?_take,if_pos CC] at hk;exact hk
   rw[hkl,aC] at this;cases this;exact hl
  ·have nQ:(t.take i)[i-1]? =some q:=by rw[List.getElem?_take,if_pos (by omega)];exact aC
   have:=List.pairwise_iff_getElem.1 h k (i-1) (cD hk) (cD nQ) (by omega)
   rw[(List.getElem?_eq_some_iff.1 hk).2,(List.getElem?_eq_some_iff.1 nQ).2] at this;exact t_ _ _ _ this hl
 ·cases hl
theorem TY{t:List az}(h:allI (io t) 0 t=true):fm t:=by
 have:∀i,i<=t.length->fm (t.take i):=by
  intro i;induction i with
  |zero=>intro _;simp[fm]
  |succ i ih=>
   intro hi;have he:t[i]? =some t[i]:=List.getElem?_eq_getElem hi;have:=ys t 0 h i _ he;rw[Nat.zero_add] at this;simp only[io,Bool.and_eq_true] at this;exact QC he (ih (by omega)) this.2
 have:=this t.length (Nat.le_refl _);rwa[List.take_length] at this
theorem afh{t:List az}{i:Nat}{e:az}{p:J}(ha:fm t)(he:t[i]? =some e)(hp:Op.bytesLess p e.path=true):kf (t.take i) p=kf t p:=by
 have hi:=cD he;have h1:=j9 (p:=p) ha i e he;rw[alH hp] at h1;have hle:bK t p<=i:=by
  have:¬i<bK t p:=by simpa using h1.symm
  omega
 have nI:bK (t.take i) p=bK t p:=by
  by_cases hlt:bK t p=i
  ·have hlen:(t.take i).length=i:=by rw[List.length_take];omega
   have h2:=pO (t.take i) p;rw[hlen] at h2;by_cases h3:bK (t.take i) p<i
   ·obtain⟨q,aC⟩:∃q,(t.take i)[bK (t.take i) p]? =some q:=⟨_,List.getElem?_eq_getElem (by rw[hlen];exact h3)⟩
    have aE:=j9 (p:=p) (ha.take i) _ q aC;have nQ:t[bK (t.take i) p]? =some q:=by rw[List.getElem?_take,if_pos h3] at aC;exact aC
    have bi:=j9 (p:=p) ha _ q nQ;rw[aE] at bi;have:decide (bK (t.take i) p<bK (t.take i) p)=false:=by simp
    rw[this] at bi;have:¬bK (t.take i) p<bK t p:=by simpa using bi.symm
    omega
   ·omega
  ·have hlt:bK t p<i:=by omega
   obtain⟨q,aC⟩:∃q,t[bK t p]? =some q:=⟨_,List.getElem?_eq_getElem (by omega)⟩
   have nQ:(t.take i)[bK t p]? =some q:=by rw[List.getElem?_take,if_pos hlt];exact aC
   have aE:=j9 (p:=p) ha _ q aC;have bi:=j9 (p:=p) (ha.take i) _ q nQ;have dq:decide (bK t p<bK t p)=false:=by simp
   rw[aE,dq] at bi;have ca:¬bK t p<bK (t.take i) p:=by simpa using bi.symm
   by_cases hX:bK (t.take i) p<bK t p
   ·obtain⟨r,hr⟩:∃r,t[bK (t.take i) p]? =some r:=⟨_,List.getElem?_eq_getElem (by omega)⟩
    have c9:(t.take i)[bK (t.take i) p]? =some r:=by rw[List.getElem?_take,if_pos (by omega)];exact hr
    have h8:=j9 (p:=p) ha _ r hr;have hH:=j9 (p:=p) (ha.take i) _ r c9;have L2:decide (bK (t.take i) p<bK (t.take i) p)=false:=by simp
    rw[h8,L2] at hH;have:¬bK (t.take i) p<bK t p:=by simpa using hH
    omega
   ·omega
 unfold kf;rw[nI];congr 1
 by_cases hlt:bK t p<i
 ·rw[List.getElem?_take,if_pos hlt]
 ·have:bK t p=i:=by omega
  rw[this,he,List.getElem?_take,if_neg (by omega)]
  have:(e.path==p)=false:=by
   cases h:(e.path==p) with
   |false=>rfl
   |true=>rw[eq_of_beq h,uJ] at hp;cases hp
  simp[this]
def kT(t:List az)(p:J):Bool:=kf t (bif fQ p then iw p else [])
theorem acv(a)(hs:b9 a.1.1.length)(hp:b9 a.1.2.1.length)(ha:fm a.1.1):f153 a=some ((kT a.1.1 a.1.2.1,()),()):=by
 obtain⟨⟨t,p,u⟩,bT⟩:=a;have e1:=ahI ((p,()),()) hp;have e2:=MU ((t,((bif fQ p then iw p else []),())),()) hs ha
 simp only[f153,e1,e2,Option.bind_some,kT,kf,gm,bY];generalize(bif fQ p then iw p else [])=up
 cases (up==[]) with
 |true=>rfl
 |false=>
  cases aw:t[bK t up]? with
  |none=>rfl
  |some e=>simp only[cond_false,cond_true,Option.bind_some,Bool.false_or];cases (e.path==up)<;>rfl
theorem afU(t:List az):dC t=(decide (t.length<=16)&&allI (fun i e=>io t i e&&kT (t.take i) e.path) 0 t):=by
 unfold dC;rw[FM];cases h:allI (io t) 0 t with
 |false=>simp
 |true=>
  have ha:=TY h;have:allI (fun i e=>kT (t.take i) e.path) 0 t=t.all (fun e=>kf t (iw e.path)):=by
   rw[<-gz _ 0 t];refine ael t 0 (fun i e he=>?_)
   rw[Nat.zero_add];have fl:=ys t 0 h i e he;rw[Nat.zero_add] at fl;have avS:fQ e.path=true:=by
    unfold io eN at fl;simp only[Bool.and_eq_true] at fl;exact fl.1.1
   unfold kT;rw[avS,cond_true];cases hu:(iw e.path==[]) with
   |true=>unfold kf;rw[hu];rfl
   |false=>exact afh ha he (ahN hu)
  rw[this];simp only[Bool.true_and];rw[Bool.and_comm]
theorem pv(a)(hs:iu a.1.1):f105 a=some ((dC a.1.1,()),()):=by
 obtain⟨⟨t,u⟩,bT⟩:=a;obtain⟨hl,he⟩:=hs;have hl:t.length<=2097152:=hl;have key:G9 ((t,(t,((t.length:Int),((0:Int),())))),())=some (bif allI (fun i e=>io t i e&&kT (t.take i) e.path) 0 t then .inr ((),()) else .inl ((false,()),())):=by
  have:=lE zL t (fun i (_:Unit)=>((t,(t,((t.length:Int),((i:Int),())))),())) (fun i e _=>some (bif io t i e&&kT (t.take i) e.path then .inl () else .inr ((.inl ((false,()),())):aA uc))) (fun _=>(.inr ((),()):aA uc))
   (fun i _=>fm (t.take i)) () (by simp[fm]) (fun i x _ hx c'=>?_) (fun _ _=>?_)
  ·exact this.trans (w1 (fun i e=>io t i e&&kT (t.take i) e.path) (fun _ s=>s) _ _ t 0 ())
  ·have hi:=cD hx;have hw:ax i:=by unfold ax;omega
   have hb:=he x (List.mem_of_getElem? hx);refine⟨?_,fun aM aj=>?_⟩
   ·have s9:=acv ((t.take i,(x.path,())),()) (show(t.take i).length<=2097152 by rw[List.length_take];omega) hb.1 c'
    simp only[zL,cq hi,cond_true,bY,hx,Option.bind_some,ED];rw[afK _ hb.1 hb.2];simp only[Option.bind_some,io,BP];cases eN x with
    |false=>rfl
    |true=>
     simp only[Bool.not_true,cond_false,Bool.true_and,uz];cases i with
     |zero=>
      have d_:bu t 0 0=some (t.take 0):=ii (b:=0) (Nat.zero_le _);have d_:bu t 0 ((0:Nat):Int)=some (t.take 0):=d_;simp only[beq_self_eq_true,Bool.not_true,cond_false,d_,Option.bind_some,s9,Bool.true_or,Bool.true_and];cases kT (t.take 0) x.path with
      |false=>rfl
      |true=>simp only[Bool.not_true,cond_false,cond_true,b4 hw];rfl
     |succ i=>
      have h0:(i+1==0)=false:=rfl;have iX:i<t.length:=by omega
      obtain⟨q,aC⟩:∃q,t[i]? =some q:=⟨t[i],List.getElem?_eq_getElem iX⟩;have d_:bu t 0 ((i+1:Nat):Int)=some (t.take (i+1)):=ii (by omega)
      simp only[h0,Bool.not_false,cond_true,tO (i:=i) (by unfold ax;omega),bY,aC,hx,Option.bind_some,Bool.false_or,Nat.add_sub_cancel]
      cases Op.bytesLess q.path x.path with
      |false=>rfl
      |true=>
       simp only[Bool.not_true,cond_false,cond_true,d_,Option.bind_some,s9,Bool.true_and];cases kT (t.take (i+1)) x.path with
       |false=>rfl
       |true=>simp only[Bool.not_true,cond_false,cond_true,b4 hw];rfl
   ·simp only[Option.some.injEq] at aj;cases aC:(io t i x&&kT (t.take i) x.path) with
    |false=>rw[aC] at aj;cases aj
    |true=>
     simp only[Bool.and_eq_true] at aC;have:=aC.1;simp only[io,Bool.and_eq_true] at this;exact QC hx c' this.2
  ·simp only[zL,dd,cond_false]
 have CJ:decide ((t.length:Int)>16)=!decide (t.length<=16):=by by_cases h:t.length<=16<;>simp only[h,decide_true,decide_false,Bool.not_true,Bool.not_false,decide_eq_true_eq,decide_eq_false_iff_not]<;>omega
 simp only[f105,CJ,key,Option.bind_some];rw[afU];cases decide (t.length<=16)<;>cases allI (fun i e=>io t i e&&kT (t.take i) e.path) 0 t<;>rfl
abbrev i202:Shape:=⟨[aK 0 .entry],[],6⟩
abbrev V':Shape:=⟨[a_ 2 3000128],[a8 3000128 .entry 2 0],6⟩
noncomputable def f202(a:i202.F):Option V'.F:=
(cj 48 ([]:List az) a.1.1).bind fun b=>
 some (((),()),b,())
noncomputable def vr:aB:=aG ad Tryz.f202 i202 V' [] f202
theorem Bt:ay O 202 vr:=aJ g0 Tryz.func202 (by kernel_rfl) af (fun y=>by kernel_rfl) fun a=>by kernel_rfl
noncomputable abbrev asL:a7:=[(90,wj),(194,BV),(202,vr)]
theorem J8:aQ O (aY ad asL):=aV ⟨B_,z194,Bt,⟨⟩⟩
abbrev OJ:Shape:=⟨[aK 1 .entry,a_ 6 3000384,ag 7,ag 8,ap 9],[a8 3000384 .entry 6 0],69⟩
abbrev On:List aO:=[(.norm,⟨[aK 1 .entry,a_ 6 3000384,ag 7,ag 8,ap 9,ap 28,ap 29,ap 47],[a8 3000384 .entry 6 0],69⟩)]
noncomputable def Ez(y:OJ.F):Option (aA On):=
 bif y.1.2.2.2.2.1 then
(bk y.2.1.length y.1.2.2.2.1).bind fun a=>
(y.2.1[a]?).bind fun b=>
 bif(b.kind !=(1:Int)) then
 some ((y.1.1,(),y.1.2.2.1,y.1.2.2.2.1,y.1.2.2.2.2.1,y.1.2.2.2.2.1,true,true,()),y.2.1,())
else
(aN y.1.1 y.1.2.2.1).bind fun c=>
(bk y.2.1.length y.1.2.2.2.1).bind fun d=>
(y.2.1[d]?).bind fun e=>
 some ((y.1.1,(),y.1.2.2.1,y.1.2.2.2.1,y.1.2.2.2.2.1,y.1.2.2.2.2.1,true,(!((c.path==e.path)&&((c.kind==e.kind)&&((c.mode==e.mode)&&(c.text==e.text))))),()),y.2.1,())
else
 some ((y.1.1,(),y.1.2.2.1,y.1.2.2.2.1,y.1.2.2.2.2.1,y.1.2.2.2.2.1,false,false,()),y.2.1,())
theorem agt:aT O (an (cN (an (codeOf Tryz.f159) 1 58)) 116 7460) (aU OJ On Ez):=b8 J8 (by kernel_rfl) af fun y=>by kernel_rfl
abbrev ud:Shape:=⟨[aK 1 .entry,a_ 6 3000384,ag 7],[a8 3000384 .entry 6 0],69⟩
abbrev oq:List aO:=[(.ret,⟨[a_ 4 3000256,ap 5],[a8 3000256 .entry 4 0],69⟩),(.exit 0,⟨[a_ 6 3000384],[a8 3000384 .entry 6 0],69⟩)]
noncomputable def zB(y:ud.F):bD ud oq:=
 bif(decide (y.1.2.2.1<(y.1.1.length:Int))) then
(aN y.1.1 y.1.2.2.1).bind fun a=>
(f194 ((y.2.1,a.path,()),())).bind fun b=>
(Ez ((y.1.1,(),y.1.2.2.1,b.1.1,b.1.2.1,()),y.2.1,())).bind fun c=>
 bif c.1.2.2.2.2.2.2.2.1 then
 some (.inr (.inl (((),false,()),([]:List az),())))
else
 bif(!c.1.2.2.2.2.1) then
(bu c.2.1 (0:Int) c.1.2.2.2.1).bind fun d=>
(cj 48 ([]:List az) d).bind fun e=>
(aN c.1.1 c.1.2.2.1).bind fun f=>
(cj 48 e ([f]:List az)).bind fun g=>
(bu c.2.1 c.1.2.2.2.1 (c.2.1.length:Int)).bind fun h=>
(cj 48 g h).bind fun i=>
 some (.inl ((c.1.1,(),(IntKind.i64.wrap (c.1.2.2.1+(1:Int))),()),i,()))
else
 some (.inl ((c.1.1,(),(IntKind.i64.wrap (c.1.2.2.1+(1:Int))),()),c.2.1,()))
else
 some (.inr (.inr (((),()),y.2.1,())))
noncomputable def GY:ud.F->Option (aA oq):=bo zB
theorem akJ:aT O (an (codeOf Tryz.f159) 1 58) (aU ud oq GY):=bE J8 (by kernel_rfl) (a6 agt af) fun y=>by kernel_rfl
abbrev i159:Shape:=⟨[aK 0 .entry,aK 1 .entry],[],69⟩
abbrev WH:Shape:=⟨[a_ 4 3000256,ap 5],[a8 3000256 .entry 4 0],69⟩
noncomputable def f159(a:i159.F):Option WH.F:=
(f202 ((a.1.1,()),())).bind fun b=>
(GY ((a.1.2.1,(),(0:Int),()),b.2.1,())).bind fun c=>
(match c with
|.inl d=>
 some (((),d.1.2.1,()),d.2.1,())
|.inr e=>
(f90 ((e.2.1,()),())).bind fun f=>
 some (((),f.1.1,()),e.2.1,()))
noncomputable def YU:aB:=aG ad Tryz.f159 i159 WH [] f159
theorem z159:ay O 159 YU:=aJ J8 Tryz.func159 (by kernel_rfl) (a6 akJ af) (fun y=>by kernel_rfl) fun a=>by kernel_rfl
noncomputable abbrev axF:a7:=[(87,Lt),(88,Ls),(89,aaJ),(90,wj)]
theorem aya:aQ O (aY ad axF):=aV ⟨z87,ZT,at6,B_,⟨⟩⟩
abbrev i50:Shape:=⟨[b5 0 [ah,ah,bl .need,bl .entry]],[],23⟩
abbrev _v:Shape:=⟨[ap 2],[],23⟩
noncomputable def f50(a:i50.F):Option _v.F:=
(f87 ((a.1.1.1,()),())).bind fun b=>
 bif b.1.1 then
(f88 ((a.1.1.2.1,()),())).bind fun c=>
 bif c.1.1 then
(f89 ((a.1.1.1,a.1.1.2.2.1,()),())).bind fun d=>
 bif d.1.1 then
(f90 ((a.1.1.2.2.2.1,()),())).bind fun e=>
 some ((e.1.1,()),())
else
 some ((false,()),())
else
 some ((false,()),())
else
 some ((false,()),())
noncomputable def CQ:aB:=aG ad Tryz.f50 i50 _v [] f50
theorem Kf:ay O 50 CQ:=aJ aya Tryz.func50 (by kernel_rfl) af (fun y=>by kernel_rfl) fun a=>by kernel_rfl
noncomputable abbrev axE:a7:=[(99,Lr),(100,BY),(101,Ud),(103,Uc),(105,vu)]
theorem abn:aQ O (aY ad axE):=aV ⟨ZS,IT,al8,al7,z105,⟨⟩⟩
abbrev SH:Shape:=⟨[au 1 1 0],[ar 1 [ah,ah,bl .need,bl .entry]],36⟩
abbrev Sv:List aO:=[(.norm,⟨[au 1 1 0,ap 18],[ar 1 [ah,ah,bl .need,bl .entry]],36⟩)]
noncomputable def Ig(y:SH.F):Option (aA Sv):=
(f99 ((y.2.1.1,()),())).bind fun a=>
 bif(!(!a.1.1)) then
(f100 ((y.2.1.2.1,()),())).bind fun b=>
 bif(!(!b.1.1)) then
 some (((),(decide ((y.2.1.2.2.1.length:Int)>(6:Int))),()),(y.2.1.1,y.2.1.2.1,y.2.1.2.2.1,y.2.1.2.2.2.1,()),())
else
 some (((),true,()),(y.2.1.1,y.2.1.2.1,y.2.1.2.2.1,y.2.1.2.2.2.1,()),())
else
 some (((),true,()),(y.2.1.1,y.2.1.2.1,y.2.1.2.2.1,y.2.1.2.2.2.1,()),())
theorem amH:aT O (an (codeOf Tryz.f55) 1 12) (aU SH Sv Ig):=b8 abn (by kernel_rfl) af fun y=>by kernel_rfl
abbrev i55:Shape:=⟨[b5 0 [ah,ah,bl .need,bl .entry]],[],36⟩
abbrev _u:Shape:=⟨[ap 2],[],36⟩
noncomputable def f55(a:i55.F):Option _u.F:=
(Ig (((),()),(a.1.1.1,a.1.1.2.1,a.1.1.2.2.1,a.1.1.2.2.2.1,()),())).bind fun b=>
 bif b.1.2.1 then
 some ((false,()),())
else
(AV ((b.2.1.2.2.1,(),()),())).bind fun c=>
 bif c.1.1 then
(AU ((b.2.1.2.2.1,(),([b.2.1.1]:List J),()),())).bind fun d=>
 bif(!d.1.1) then
(f105 ((b.2.1.2.2.2.1,()),())).bind fun e=>
 some ((e.1.1,()),())
else
 some ((false,()),())
else
 some ((false,()),())
noncomputable def CP:aB:=aG ad Tryz.f55 i55 _u [] f55
theorem Ke:ay O 55 CP:=aJ abn Tryz.func55 (by kernel_rfl) (a6 amH af) (fun y=>by kernel_rfl) fun a=>by kernel_rfl
noncomputable abbrev api:a7:=[(55,CP)]
theorem U_:aQ O (aY ad api):=aV ⟨Ke,⟨⟩⟩
abbrev xT:Shape:=⟨[(1,.am (.fn 55 [])),aK 7 .pack,ag 8,ag 9],[],18⟩
abbrev ES:List aO:=[(.ret,⟨[ap 4],[],18⟩),(.exit 0,⟨[],[],18⟩)]
noncomputable def yh(y:xT.F):bD xT ES:=
 bif(decide (y.1.2.2.2.1<y.1.2.2.1)) then
(aN y.1.2.1 y.1.2.2.2.1).bind fun a=>
(f55 (((a.name,a.bf,a.bj,a.bH,()),()),())).bind fun b=>
 bif(!b.1.1) then
 some (.inr (.inl ((false,()),())))
else
 some (.inl (((),y.1.2.1,y.1.2.2.1,(IntKind.i64.wrap (y.1.2.2.2.1+(1:Int))),()),()))
else
 some (.inr (.inr ((),())))
noncomputable def Fi:xT.F->Option (aA ES):=bo yh
theorem aif:aT O (an (codeOf Tryz.f54) 1 26) (aU xT ES Fi):=bE U_ (by kernel_rfl) af fun y=>by kernel_rfl
abbrev UR:Shape:=⟨[aK 0 .pack,(1,.am (.fn 55 []))],[],18⟩
abbrev UC:Shape:=⟨[ap 4],[],18⟩
noncomputable def Bj(a:UR.F):Option UC.F:=
(Fi (((),a.1.1,(a.1.1.length:Int),(0:Int),()),())).bind fun b=>
(match b with
|.inl c=>
 some ((c.1.1,()),())
|.inr d=>
 some ((true,()),()))
noncomputable def U8:aB:=aG ad Tryz.f54 UR UC [] Bj
theorem aod:ay O 54 U8:=aJ U_ Tryz.func54 (by kernel_rfl) (a6 aif af) (fun y=>by kernel_rfl) fun a=>by kernel_rfl
abbrev Ah:Shape:=⟨[aK 0 .pack,ag 3],[],22⟩
abbrev HO:List aO:=[(.ret,⟨[ap 2],[],22⟩),(.exit 0,⟨[],[],22⟩)]
noncomputable def AK(y:Ah.F):bD Ah HO:=
 bif(decide (y.1.2.1<(y.1.1.length:Int))) then
(aN y.1.1 (IntKind.i64.wrap (y.1.2.1-(1:Int)))).bind fun a=>
(aN y.1.1 y.1.2.1).bind fun b=>
 bif(!(Op.bytesLess a.name b.name)) then
 some (.inr (.inl ((false,()),())))
else
 some (.inl ((y.1.1,(IntKind.i64.wrap (y.1.2.1+(1:Int))),()),()))
else
 some (.inr (.inr ((),())))
noncomputable def H_:Ah.F->Option (aA HO):=bo AK
theorem amG:aT O (an (codeOf Tryz.f56) 1 26) (aU Ah HO H_):=bE g0 (by kernel_rfl) af fun y=>by kernel_rfl
abbrev i56:Shape:=⟨[aK 0 .pack],[],22⟩
abbrev _t:Shape:=⟨[ap 2],[],22⟩
noncomputable def f56(a:i56.F):Option _t.F:=
(H_ ((a.1.1,(1:Int),()),())).bind fun b=>
(match b with
|.inl c=>
 some ((c.1.1,()),())
|.inr d=>
 some ((true,()),()))
noncomputable def aaU:aB:=aG ad Tryz.f56 i56 _t [] f56
theorem auh:ay O 56 aaU:=aJ g0 Tryz.func56 (by kernel_rfl) (a6 amG af) (fun y=>by kernel_rfl) fun a=>by kernel_rfl
abbrev jB(p:aS):Prop:=b9 p.name.length/\b9 p.bf.length/\sT p.bj/\iu p.bH
abbrev fj(ps:List aS):Prop:=b9 ps.length/\∀p,p∈ps->jB p
def ct(p:aS):Bool:=hZ p.name&&dY p.bf&&pQ p.name p.bj&&dC p.bH
theorem EO(a)(hb:jB ⟨a.1.1.1,a.1.1.2.1,a.1.1.2.2.1,a.1.1.2.2.2.1⟩):f50 a=some ((ct ⟨a.1.1.1,a.1.1.2.1,a.1.1.2.2.1,a.1.1.2.2.2.1⟩,()),()):=by
 obtain⟨⟨⟨n,v,ns,t,u⟩,bT⟩,mL⟩:=a;obtain⟨h1,h2,h3,aE⟩:=hb;have h1:n.length<=2097152:=h1;have e1:=Pr ((n,()),()) (show n.length<=1099511627776 by omega)
 have e2:=MV ((v,()),()) h2;have bv:=afy ((n,(ns,())),()) h3 h1;have dq:=EM ((t,()),()) aE;simp only[f50,e1,e2,bv,dq,Option.bind_some,ct];cases hZ n<;>cases dY v<;>cases pQ n ns<;>rfl
theorem xh(a)(hb:jB ⟨a.1.1.1,a.1.1.2.1,a.1.1.2.2.1,a.1.1.2.2.2.1⟩):f55 a=some ((ct ⟨a.1.1.1,a.1.1.2.1,a.1.1.2.2.1,a.1.1.2.2.2.1⟩,()),()):=by
 obtain⟨⟨⟨n,v,ns,t,u⟩,bT⟩,mL⟩:=a;obtain⟨h1,h2,h3,aE⟩:=hb;have h1:n.length<=2097152:=h1;have e1:=MF ((n,()),()) (show n.length<=1099511627776 by omega)
 have e2:=Dm ((v,()),()) h2;have bv:=afM ((ns,((),())),()) h3;have dq:=pv ((t,()),()) aE;have fa:=acP ((ns,((),(([n]:List J),()))),()) h3 (Nat.le_refl _);have ca:decide ((ns.length:Int)>6)=!decide (ns.length<=6):=by by_cases h:ns.length<=6<;>simp only[h,decide_true,decide_false,Bool.not_true,Bool.not_false,decide_eq_true_eq,decide_eq_false_iff_not]<;>omega
 have Z:jr [] (n::ns.map (·.name))=jr [n] (ns.map (·.name)):=by simp[jr]
 simp only[f55,Ig,e1,e2,Option.bind_some,ct,pQ,Z,ca,Bool.not_not];cases hZ n with
 |false=>rfl
 |true=>
  cases dY v with
  |false=>rfl
  |true=>
   cases decide (ns.length<=6) with
   |false=>simp only[cond_true,Bool.not_false,Option.bind_some,Bool.and_false,Bool.false_and]
   |true=>
    simp only[cond_true,Bool.not_true,cond_false,Option.bind_some,bv,fa,dq,Bool.true_and,Bool.and_true];cases List.all ns dR<;>cases jr [n] (ns.map (·.name))<;>rfl
theorem afL(a)(hs:fj a.1.1):Bj a=some ((a.1.1.all ct,()),()):=by
 obtain⟨⟨ps,u⟩,bT⟩:=a;obtain⟨hl,hn⟩:=hs;have hl:ps.length<=2097152:=hl;have key:Fi (((),(ps,((ps.length:Int),((0:Int),())))),())=some (bif allI (fun _ n=>ct n) 0 ps then .inr ((),()) else .inl ((false,()),())):=by
  refine fy yh ps (fun i=>(((),(ps,((ps.length:Int),((i:Int),())))),())) _ _ _ (fun i x hx=>?_) ?_
  ·have hi:=cD hx;have hw:ax i:=by unfold ax;omega
   have hb:=hn x (List.mem_of_getElem? hx);simp only[yh,cq hi,cond_true,bY,hx,Option.bind_some];rw[xh _ hb];simp only[Option.bind_some,b4 hw];cases ct x<;>rfl
  ·simp only[yh,dd,cond_false]
 rw[gz] at key;simp only[Bj,key,Option.bind_some];cases List.all ps ct<;>rfl
def mz(ps:List aS)(i:Nat)(x:aS):Bool:=match ps[i]? with
 |some q=>Op.bytesLess q.name x.name
 |none=>false
def km(ps:List aS):Bool:=allI (mz ps) 0 ps.tail
theorem acu(a)(hs:b9 a.1.1.length):f56 a=some ((km a.1.1,()),()):=by
 obtain⟨⟨ps,u⟩,bT⟩:=a;have hs:ps.length<=2097152:=hs;have key:H_ ((ps,((1:Int),())),())=some (bif allI (mz ps) 0 ps.tail then .inr ((),()) else .inl ((false,()),())):=by
  refine fy AK ps.tail (fun i=>((ps,(((i+1:Nat):Int),())),())) _ _ _ (fun i x hx=>?_) ?_
  ·have o5:ps[i+1]? =some x:=by rw[List.getElem?_tail] at hx;exact hx
   have hi:=cD o5;have hw:ax (i+1):=by unfold ax;omega
   obtain⟨q,aC⟩:∃q,ps[i]? =some q:=⟨ps[i],List.getElem?_eq_getElem (by omega)⟩
   simp only[AK,cq hi,cond_true,tO (i:=i) (by unfold ax;omega),bY,aC,o5,Option.bind_some,b4 hw,mz]
   cases Op.bytesLess q.name x.name<;>rfl
  ·have:decide (((ps.tail.length+1:Nat):Int)<(ps.length:Int))=false:=by
    simp only[decide_eq_false_iff_not,List.length_tail];omega
   simp only[AK,this,cond_false]
 simp only[f56,key,Option.bind_some,km];cases allI (mz ps) 0 ps.tail<;>rfl
def j2(a b:az):Bool:=a.path==b.path&&(a.kind==b.kind&&(a.mode==b.mode&&a.text==b.text))
def lZ(e q:az):Bool:=e.kind !=1||!j2 e q
theorem ajk(a b:az):j2 a b=j2 b a:=by
 unfold j2;have h1:(a.path==b.path)=(b.path==a.path):=BEq.comm;have h2:(a.kind==b.kind)=(b.kind==a.kind):=BEq.comm;have h3:(a.mode==b.mode)=(b.mode==a.mode):=BEq.comm;have aE:(a.text==b.text)=(b.text==a.text):=BEq.comm;rw[h1,h2,h3,aE]
theorem alE(e q:az):lZ e q=(q.kind !=1||!j2 e q):=by
 unfold lZ;cases h:j2 e q with
 |false=>simp
 |true=>
  unfold j2 at h;simp only[Bool.and_eq_true] at h;rw[show e.kind=q.kind from eq_of_beq h.2.1]
def jl(t:List az)(k:Nat)(e:az):List az:=t.take k++[e]++t.drop k
def gj(out:List az):List az->Option (List az)
 |[]=>some out
 |e::r=>match out[bK out e.path]? with
  |some q=>bif q.path==e.path then(bif lZ e q then none else gj out r) else gj (jl out (bK out e.path) e) r
  |none=>gj (jl out (bK out e.path) e) r
theorem O5(t:List az)(k:Nat)(e:az)(h:k<=t.length):(jl t k e).length=t.length+1:=by
 unfold jl;simp only[List.length_append,List.length_take,List.length_cons,List.length_nil,List.length_drop];omega
theorem Ev{t:List az}{k:Nat}{e x:az}(h:x∈jl t k e):x=e\/x∈t:=by
 unfold jl at h;rcases List.mem_append.1 h with h|h
 ·rcases List.mem_append.1 h with h|h
  ·exact .inr (List.mem_of_mem_take h)
  ·exact .inl (by simpa using h)
 ·exact .inr (List.mem_of_mem_drop h)
def gZ(out:List az)(e:az):Option (List az):=match out[bK out e.path]? with
 |some q=>bif q.path==e.path then(bif lZ e q then none else some out) else some (jl out (bK out e.path) e)
 |none=>some (jl out (bK out e.path) e)
theorem tM(out:List az)(e:az)(r:List az):gj out (e::r)=(gZ out e).bind fun B=>gj B r:=by
 unfold gZ;rw[gj];cases out[bK out e.path]? with
 |none=>rfl
 |some q=>
  simp only;cases (q.path==e.path) with
  |false=>rfl
  |true=>cases lZ e q<;>rfl
theorem xl{out B:List az}{e:az}(h:gZ out e=some B):B.length<=out.length+1:=by
 unfold gZ at h;split at h
 ·rename_i q aC;cases hp:(q.path==e.path) with
  |true=>
   rw[hp] at h;cases hc:lZ e q with
   |true=>rw[hc] at h;cases h
   |false=>rw[hc] at h;cases h;omega
  |false=>rw[hp] at h;cases h;rw[O5 _ _ _ (pO _ _)];omega
 ·cases h;rw[O5 _ _ _ (pO _ _)];omega
theorem Ea{out B:List az}{e x:az}(h:gZ out e=some B)(hx:x∈B):x=e\/x∈out:=by
 unfold gZ at h;split at h
 ·rename_i q aC;cases hp:(q.path==e.path) with
  |true=>
   rw[hp] at h;cases hc:lZ e q with
   |true=>rw[hc] at h;cases h
   |false=>rw[hc] at h;cases h;exact .inr hx
  |false=>rw[hp] at h;cases h;exact Ev hx
 ·cases h;exact Ev hx
theorem alL{t:List az}{e:az}(ha:fm t)(hn:gm t e.path=false):fm (jl t (bK t e.path) e):=by
 have XB:∀a,a∈t.take (bK t e.path)->Op.bytesLess a.path e.path=true:=by
  intro a h;obtain⟨k,hk⟩:=List.mem_iff_getElem?.1 h;have aae:k<bK t e.path:=by have:=cD hk;rw[List.length_take] at this;omega
  have KV:t[k]? =some a:=by rw[List.getElem?_take,if_pos aae] at hk;exact hk
  rw[j9 ha k a KV];simpa using aae
 have UV:∀a,a∈t.drop (bK t e.path)->Op.bytesLess e.path a.path=true:=by
  intro a h;obtain⟨k,hk⟩:=List.mem_iff_getElem?.1 h;rw[List.getElem?_drop] at hk;have h1:=j9 (p:=e.path) ha _ a hk;have h2:Op.bytesLess a.path e.path=false:=by rw[h1];simp
  refine anm _ _ h2 ?_
  cases aC:(a.path==e.path) with
  |false=>rfl
  |true=>
   exfalso
   cases k with
   |zero=>
    unfold gm at hn;rw[Nat.add_zero] at hk;rw[hk] at hn;simp only[aC] at hn;cases hn
   |succ k=>
    have hlt:=cD hk;obtain⟨q,vU⟩:∃q,t[bK t e.path]? =some q:=⟨_,List.getElem?_eq_getElem (by omega)⟩
    have h3:=List.pairwise_iff_getElem.1 ha (bK t e.path) (bK t e.path+(k+1)) (cD vU) hlt (by omega)
    rw[(List.getElem?_eq_some_iff.1 vU).2,(List.getElem?_eq_some_iff.1 hk).2] at h3;have aE:=j9 (p:=e.path) ha _ q vU;rw[<-eq_of_beq aC,h3] at aE;simp at aE
 unfold fm jl;refine List.pairwise_append.2 ⟨List.pairwise_append.2 ⟨ha.take _,by simp,?_⟩,List.Pairwise.sublist (List.drop_sublist _ _) ha,?_⟩
 ·intro a h b hb;have hb:b=e:=by simpa using hb
  subst hb;exact XB a h
 ·intro a h b hb;rcases List.mem_append.1 h with h|h
  ·exact t_ _ _ _ (XB a h) (UV b hb)
  ·have h:a=e:=by simpa using h
   subst h;exact UV b hb
theorem afX{out B:List az}{e:az}(ha:fm out)(h:gZ out e=some B):fm B:=by
 unfold gZ at h;have hno:∀{b:Bool},gm out e.path=b->b=false->fm (jl out (bK out e.path) e):=fun h1 h2=>alL ha (h1.trans h2)
 split at h
 ·rename_i q aC;cases hp:(q.path==e.path) with
  |true=>
   rw[hp] at h;cases hc:lZ e q with
   |true=>rw[hc] at h;cases h
   |false=>rw[hc] at h;cases h;exact ha
  |false=>rw[hp] at h;cases h;exact hno (by unfold gm;rw[aC]) hp
 ·rename_i aC;cases h;exact hno (by unfold gm;rw[aC]) rfl
theorem ahA(a)(ha:iu a.1.1)(hb:iu a.1.2.1)(hl:a.1.1.length+a.1.2.1.length<=2097152):f159 a=
  some (match gj a.1.1 a.1.2.1 with|some out=>(((),(dC out,())),(out,()))|none=>(((),(false,())),(([]:List az),()))):=by
 obtain⟨⟨xs,bg,u⟩,bT⟩:=a;have hl:xs.length+bg.length<=2097152:=hl;have hc:f202 ((xs,()),())=some (((),()),(xs,())):=by
  simp only[f202];rw[dt (by decide) (by unfold ax;simp only[List.length_nil];omega)]
  rfl
 have key:GY ((bg,((),((0:Int),()))),(xs,()))=_:=lE zB bg (fun i (out:List az)=>((bg,((),((i:Int),()))),(out,())))
  (fun i e out=>some (match gZ out e with|some B=>.inl B|none=>.inr ((.inl (((),(false,())),(([]:List az),()))):aA oq))) (fun out=>((.inr (((),()),(out,()))):aA oq))
  (fun i out=>out.length<=xs.length+i/\∀e,e∈out->ls e) xs ⟨Nat.le_refl _,ha.2⟩ (fun i x out hx c'=>?_) (fun out _=>?_)
 ·have fold:∀(r:List az) (k:Nat) (out:List az),eF (fun i e out=>some (match gZ out e with|some B=>.inl B|none=>.inr ((.inl (((),(false,())),(([]:List az),()))):aA oq))) (fun out=>((.inr (((),()),(out,()))):aA oq)) k r out=
    some (match gj out r with|some B=>.inr (((),()),(B,()))|none=>.inl (((),(false,())),(([]:List az),()))):=by
   intro r;induction r with
   |nil=>intro k out;rfl
   |cons e r ih=>
    intro k out;rw[tM];simp only[eF];cases gZ out e with
    |none=>rfl
    |some B=>simp only[Option.bind_some];exact ih _ _
  have mem:∀(r:List az) (out B:List az),(∀e,e∈r->ls e)->(∀e,e∈out->ls e)->gj out r=some B->B.length<=out.length+r.length/\∀e,e∈B->ls e:=by
   intro r;induction r with
   |nil=>intro out B _ h2 h;cases h;exact⟨Nat.le_refl _,h2⟩
   |cons e r ih=>
    intro out B h1 h2 h;rw[tM] at h;obtain⟨o1,h3,aE⟩:=Option.bind_eq_some_iff.1 h;have bi:=ih o1 B (fun x hx=>h1 x (List.mem_cons_of_mem _ hx)) (fun x hx=>by
     rcases Ea h3 hx with rfl|h
     ·exact h1 x List.mem_cons_self
     ·exact h2 x h) aE
    have ca:=xl h3;exact⟨by simp only[List.length_cons];omega,bi.2⟩
  rw[fold] at key;simp only[f159,hc,Option.bind_some,key];cases hj:gj xs bg with
  |none=>rfl
  |some B=>
   have hm:=mem bg xs B hb.2 ha.2 hj;simp only[Option.bind_some];rw[EM _ ⟨show B.length<=2097152 by omega,hm.2⟩]
   rfl
 ·have hi:=cD hx;have hw:ax i:=by unfold ax;omega
  refine⟨?_,fun aM aj=>?_⟩
  ·have l':=HB ((out,(x.path,())),()) (show out.length<=2097152 by omega)
   have s9:=pO out x.path;simp only[zB,cq hi,cond_true,bY,hx,Option.bind_some,l',Ez,gm,gZ];have grow:((bu out 0 (bK out x.path:Int)).bind fun aqA=>(cj 48 ([]:List az) aqA).bind fun aqz=>(cj 48 aqz ([x]:List az)).bind fun aqy=>(bu out (bK out x.path:Int) (out.length:Int)).bind fun aqx=>(cj 48 aqy aqx).bind fun aqw=>
     (some (.inl ((bg,((),((IntKind.i64.wrap ((i:Int)+(1:Int))),()))),(aqw,()))):Option (Sum ud.F (aA oq))))=some (.inl ((bg,((),(((i+1:Nat):Int),()))),(jl out (bK out x.path) x,()))):=by
    have hlen:(out.take (bK out x.path)).length<=out.length:=by rw[List.length_take];omega
    have azL:(out.drop (bK out x.path)).length<=out.length:=by rw[List.length_drop];omega
    rw[ii s9,Option.bind_some,dt (by decide) (by unfold ax;simp only[List.length_nil];omega),Option.bind_some,dt (by decide) (by unfold ax;simp only[List.length_nil,List.length_cons,List.nil_append];omega),Option.bind_some,iI s9,Option.bind_some,
     dt (by decide) (by unfold ax;simp only[List.length_append,List.length_nil,List.length_cons,List.nil_append];omega),Option.bind_some,b4 hw]
    rfl
   cases aC:out[bK out x.path]? with
   |none=>simp only[cond_false,Option.bind_some,Bool.not_false,cond_true,bY,hx];exact grow
   |some q=>
    have hin:=fO (cD aC);simp only;cases hp:(q.path==x.path) with
    |false=>simp only[cond_false,Option.bind_some,Bool.not_false,cond_true,bY,hx];exact grow
    |true=>
     have th:((x.path==q.path)&&((x.kind==q.kind)&&((x.mode==q.mode)&&(x.text==q.text))))=j2 x q:=rfl;rw[alE];simp only[cond_true,hin,aC,Option.bind_some,bY,hx,th];cases hk:(q.kind !=1) with
     |true=>rfl
     |false=>
      simp only[cond_false,Option.bind_some,Bool.false_or];cases j2 x q with
      |false=>rfl
      |true=>simp only[Bool.not_true,cond_false,Option.bind_some,b4 hw];rfl
  ·simp only[Option.some.injEq] at aj;cases hs:gZ out x with
   |none=>rw[hs] at aj;cases aj
   |some B=>
    rw[hs] at aj;cases aj;have ca:=xl hs;refine⟨by omega,fun e he=>?_⟩
    rcases Ea hs he with rfl|h
    ·exact hb.2 e (List.mem_of_getElem? hx)
    ·exact c'.2 e h
 ·simp only[zB,dd,cond_false]
noncomputable abbrev ati:a7:=[(159,YU)]
theorem ZM:aQ O (aY ad ati):=aV ⟨z159,⟨⟩⟩
abbrev zb:Shape:=⟨[aK 0 .pack,a_ 4 3000256,ag 5],[a8 3000256 .entry 4 0],30⟩
abbrev pN:List aO:=[(.ret,⟨[a_ 2 3000128,ap 3],[a8 3000128 .entry 2 0],30⟩),(.exit 0,⟨[a_ 4 3000256],[a8 3000256 .entry 4 0],30⟩)]
noncomputable def zJ(y:zb.F):bD zb pN:=
 bif(decide (y.1.2.2.1<(y.1.1.length:Int))) then
(aN y.1.1 y.1.2.2.1).bind fun a=>
(f159 ((y.2.1,a.bH,()),())).bind fun b=>
 bif(!b.1.2.1) then
 some (.inr (.inl (((),false,()),([]:List az),())))
else
 some (.inl ((y.1.1,(),(IntKind.i64.wrap (y.1.2.2.1+(1:Int))),()),b.2.1,()))
else
 some (.inr (.inr (((),()),y.2.1,())))
noncomputable def G7:zb.F->Option (aA pN):=bo zJ
theorem ak2:aT O (an (codeOf Tryz.f109) 1 58) (aU zb pN G7):=bE ZM (by kernel_rfl) af fun y=>by kernel_rfl
abbrev i109:Shape:=⟨[aK 0 .pack],[],30⟩
abbrev Xh:Shape:=⟨[a_ 2 3000128,ap 3],[a8 3000128 .entry 2 0],30⟩
noncomputable def f109(a:i109.F):Option Xh.F:=
(G7 ((a.1.1,(),(0:Int),()),([]:List az),())).bind fun b=>
(match b with
|.inl c=>
 some (((),c.1.2.1,()),c.2.1,())
|.inr d=>
 some (((),true,()),d.2.1,()))
noncomputable def Zk:aB:=aG ad Tryz.f109 i109 Xh [] f109
theorem z109:ay O 109 Zk:=aJ ZM Tryz.func109 (by kernel_rfl) (a6 ak2 af) (fun y=>by kernel_rfl) fun a=>by kernel_rfl
abbrev i229:Shape:=⟨[aK 0 .entry],[],8⟩
abbrev I5:Shape:=⟨[a_ 2 3000128],[a8 3000128 .entry 2 0],8⟩
noncomputable def f229(a:i229.F):Option I5.F:=
 py (t:=.entry) a.1.1 (some (((),()),([]:List az),())) ((cj 48 ([]:List az) a.1.1).bind fun b=>
 some (((),()),b,()))
noncomputable def Yg:aB:=aG ad Tryz.f229 i229 I5 [] f229
theorem z229:ay O 229 Yg:=aJ g0 Tryz.func229 (by kernel_rfl) af (fun y=>by kernel_rfl) fun a=>by kernel_rfl
theorem agY(g n c i vb m vc:Nat)(cur vcur:Array Value)(te ve:TypeId)(w:World)(hi:i<n)(hm:0<m)(hroom:n+m<=c)(hc63:c<=9223372036854775807)(hne:vb≠g)
  (hg:w.heap[g]? =some (.cells cur te (0,0))) (hv:w.heap[vb]? =some (.cells vcur ve (0,0))) (hcs:cur.size=c*4) (hvs:m*4<=vcur.size)
  (h1c:∀v∈cur.toList.take (n*4),v.oneCell'=true) (h1v:∀v∈vcur.toList.take (m*4),v.oneCell'=true):
  Calls O 230 #[.slice (some ⟨g,0,none⟩) n c,.int .i64 i,.slice (some ⟨vb,0,none⟩) m vc] w fun e w'=>
   e=.returned (.slice (some ⟨g,0,none⟩) (n+m) c)/\w'=w.drew.setRow g (bM (bM cur.toList ((i+m)*4) ((cur.toList.take (n*4)).drop (i*4))) (i*4) (vcur.toList.take (m*4))).toArray:=by
 have t33:O.underlying 64=some (.slice 178):=by kernel_rfl
 have hsz:(O.info? 178).map (·.size)=some 4:=by kernel_rfl
 have hz1:¬((m:Int)=0):=by omega
 have hz2:¬((i:Int)=(n:Int)):=by omega
 have hov:∀off lb cb,(callFunc 264 #[.slice (some ⟨vb,0,none⟩) m vc,.slice (some ⟨g,off,none⟩) lb cb]).run O w=.ok (.value (.bool false)) w:=fun off lb cb=>by
  rw[run_callFunc_extern Tryz.func264 (by kernel_rfl) (by kernel_rfl) (by kernel_rfl) (e:=Extern.SlicesOverlaps.overlaps #[64,64] #[4]) (by kernel_rfl),
   Lib.run_overlaps_apart w 64 4 178 t33 4 (fun w=>by kernel_rfl) ⟨vb,0,none⟩ ⟨g,off,none⟩ m vc lb cb hne ve te vcur.size cur.size (by simp[World.shape?,hv]) (by simp[World.shape?,hg]) (by omega) (by simp[World.frozen?,hv]) (by simp[World.frozen?,hv])]
  rfl
 have hdl:((cur.toList.take (n*4)).drop (i*4)).length=(n-i)*4:=by simp only[List.length_drop,List.length_take,Array.length_toList,hcs];rw[Nat.min_eq_left (by omega),Nat.sub_mul]
 have hcl:∀j v,(cur.toList.take (n*4))[j]? =some v->w.cell? ⟨g,j,none⟩=some v:=fun j v h=>by
  rw[List.getElem?_take] at h;split at h
  ·simpa[World.cell?,hg] using h
  ·cases h
 have hcv:∀j v,(vcur.toList.take (m*4))[j]? =some v->w.cell? ⟨vb,j,none⟩=some v:=fun j v h=>by
  rw[List.getElem?_take] at h;split at h
  ·simpa[World.cell?,hv] using h
  ·cases h
 have hcp1:∀ty dc sc,(Builtin.copy_ #[64,64] ty #[.slice (some ⟨g,(i+m)*4,none⟩) (n+m-(i+m)) dc,.slice (some ⟨g,i*4,none⟩) (n+m-i) sc]).run O w.drew=
   .ok (goInt (Nat.min (n+m-i) (n+m-(i+m)))) (w.drew.setRow g (bM cur.toList ((i+m)*4) ((cur.toList.take (n*4)).drop (i*4))).toArray):=fun ty dc sc=>
  w9 w.drew _ _ ty 178 4 g ((i+m)*4) (n+m-(i+m)) dc ⟨g,i*4,none⟩ (n+m-i) sc cur te _ t33 hsz hg (by rw[hdl];simp only[Nat.min_def];split<;>omega)
   (fun j v hj=>by rw[Addr.add_lit];exact hcl (i*4+j) v (by rwa[List.getElem?_drop] at hj)) (by rw[hdl,hcs];omega) (fun v hv=>h1c v (List.mem_of_mem_drop hv))
 obtain⟨cur1,hcur1⟩:∃cur1,cur1=(bM cur.toList ((i+m)*4) ((cur.toList.take (n*4)).drop (i*4))).toArray:=⟨_,rfl⟩;rw[<-hcur1] at hcp1;have hc1s:cur1.size=c*4:=by rw[hcur1];simp only[bM,List.size_toArray,List.length_append,List.length_drop,List.length_take,Array.length_toList,hcs];omega
 have hcp2:∀(W:World),W.heap=(w.drew.setRow g cur1).heap->∀ty dc,(Builtin.copy_ #[64,64] ty #[.slice (some ⟨g,i*4,none⟩) (n+m-i) dc,.slice (some ⟨vb,0,none⟩) m vc]).run O W=
   .ok (goInt (Nat.min m (n+m-i))) (W.setRow g (bM cur1.toList (i*4) (vcur.toList.take (m*4))).toArray):=fun W hW ty dc=>
  w9 W _ _ ty 178 4 g (i*4) (n+m-i) dc ⟨vb,0,none⟩ m vc cur1 te _ t33 hsz (by rw[hW];exact setRow_heap w.drew g cur cur1 te (0,0) hg)
   (by simp only[List.length_take,Array.length_toList,Nat.min_def];split<;>split<;>omega)
   (fun j v hj=>by
    have:=hcv j v hj;rw[Addr.add_lit,Nat.zero_add];unfold World.cell? at this ⊢;rw[hW,show(w.drew.setRow g cur1).heap[vb]? =w.heap[vb]? from setRow_other w.drew g vb cur1 hne];exact this) (by simp only[List.length_take,Array.length_toList];omega) h1v
 have hE:w.drew.setRow g (bM (bM cur.toList ((i+m)*4) ((cur.toList.take (n*4)).drop (i*4))) (i*4) (vcur.toList.take (m*4))).toArray=(w.drew.setRow g cur1).setRow g (bM cur1.toList (i*4) (vcur.toList.take (m*4))).toArray:=by
  rw[setRow_setRow,hcur1]
 rw[hE];clear hE hcur1;have hw1:IntKind.i64.wrap ((i:Int)+(m:Int))=(i:Int)+(m:Int):=by rw[IntKind.wrap_i64];omega
 have hb1:(0:Int)<=(i:Int)+(m:Int):=by omega
 have hin:i<=n:=by omega
 have htn:((i:Int)+(m:Int)).toNat=i+m:=by omega
 have hb2:¬(c=i+m):=by omega
 have hb3:(i:Int)<=(n:Int)+(m:Int):=by omega
 have hb4:¬(c=i):=by omega
 go_enter Tryz.func230,Tryz.ntmps230
 go_wp2_with (simp only[hov])
 go_region_law (refine M2 rfl _ _ 64 64 rfl (.slice (some ⟨g,(i+m)*4,none⟩) (n+m-(i+m)) (c-(i+m))) (.slice (some ⟨g,i*4,none⟩) (n+m-i) (c-i)) (by simp[Act.eval,Act.put]) (by simp[Act.eval,Act.put]) (hcp1 _ _ _) ?_)
 go_wp2_with (at_builtin;refine MB _ rfl _ _ 64 64 rfl _ _ rfl rfl (hcp2 _ rfl _ _) ?_)
 go_ret
 exact⟨rfl,rfl⟩
theorem ag0(xa:Option Addr)(vc:Nat)(w:World):
  Calls O 230 #[.slice none 0 0,.int .i64 0,.slice xa 0 vc] w fun e w'=>e=.returned (.slice none 0 0)/\w'=w:=by
 go_enter Tryz.func230,Tryz.ntmps230
 go_wp2
 go_ret
 exact⟨rfl,rfl⟩
theorem agZ(g n c i:Nat)(xa:Option Addr)(vc:Nat)(w:World)(hi:i<=n)(hnc:n<=c)(hc63:c<=9223372036854775807):
  Calls O 230 #[.slice (some ⟨g,0,none⟩) n c,.int .i64 i,.slice xa 0 vc] w fun e w'=>e=.returned (.slice (some ⟨g,0,none⟩) n c)/\w'=w:=by
 go_enter Tryz.func230,Tryz.ntmps230
 go_wp2
 all_goals(go_ret;exact⟨rfl,rfl⟩)
theorem ai3(xa:Option Addr)(m vc:Nat)(w:World)(hm:0<m)(v':Value)(W:World)(hr:∀ty,(Builtin.append_ #[64,64] ty #[.slice none 0 0,.slice xa m vc]).run O w=.ok v' W):
  Calls O 230 #[.slice none 0 0,.int .i64 0,.slice xa m vc] w fun e w'=>e=.returned v'/\w'=W:=by
 have hz1:¬((m:Int)=0):=by omega
 go_enter Tryz.func230,Tryz.ntmps230
 go_wp2_with (at_builtin;refine Dg _ rfl _ _ 64 64 rfl _ _ rfl rfl (hr _) ?_)
 go_ret
 exact⟨rfl,rfl⟩
theorem ai2(g n c:Nat)(xa:Option Addr)(m vc:Nat)(w:World)(hnc:n<=c)(hc63:c<=9223372036854775807)(hm:0<m)(v':Value)(W:World)(hr:∀ty,(Builtin.append_ #[64,64] ty #[.slice (some ⟨g,0,none⟩) n c,.slice xa m vc]).run O w=.ok v' W):
  Calls O 230 #[.slice (some ⟨g,0,none⟩) n c,.int .i64 n,.slice xa m vc] w fun e w'=>e=.returned v'/\w'=W:=by
 have hz1:¬((m:Int)=0):=by omega
 go_enter Tryz.func230,Tryz.ntmps230
 go_wp2_with (at_builtin;refine Dg _ rfl _ _ 64 64 rfl _ _ rfl rfl (hr _) ?_)
 all_goals(go_ret;exact⟨rfl,rfl⟩)
theorem ai1(g n c i vb m vc:Nat)(cur vcur:Array Value)(te ve:TypeId)(w:World)(hi:i<n)(hm:0<m)(hnc:n<=c)(hroom:c<n+m)(hc63:c<=9223372036854775807)(hbig:(n+m)*48<=140737488355328)
  (hg:w.heap[g]? =some (.cells cur te (0,0))) (hv:w.heap[vb]? =some (.cells vcur ve (0,0))) (hcs:cur.size=c*4) (hvs:m*4<=vcur.size)
  (h1c:∀v∈cur.toList.take (n*4),v.oneCell'=true) (h1v:∀v∈vcur.toList.take (m*4),v.oneCell'=true):
  ∃G ROW,∃W:World,G<=maxLen/\n+m<=G/\ROW.size=G*4/\ROW.toList.take (i*4)=cur.toList.take (i*4)/\W.os=w.os/\W.tape=w.tape/\W.output=w.output/\W.heap=w.heap.push (.cells ROW 178 (0,0))/\
  Calls O 230 #[.slice (some ⟨g,0,none⟩) n c,.int .i64 i,.slice (some ⟨vb,0,none⟩) m vc] w fun e w'=>
   e=.returned (.slice (some ⟨w.heap.size,0,none⟩) (n+m) G)/\w'.os=w.os/\w'.tape=w.tape/\w'.output=w.output/\
    w'.heap=(W.setRow w.heap.size (bM (bM ROW.toList (i*4) (vcur.toList.take (m*4))) ((i+m)*4) ((cur.toList.take (n*4)).drop (i*4))).toArray).heap:=by
 have t33:O.underlying 64=some (.slice 178):=by kernel_rfl
 have t3:O.underlying 3=some (.int .i64):=by kernel_rfl
 have hsz:(O.info? 178).map (·.size)=some 4:=by kernel_rfl
 have hinfo:(O.info? 178).map (fun i=>(i.zero.map (·.cells.size),i.size,i.bytes))=some (some 4,4,48):=by kernel_rfl
 obtain⟨i0,hi0,hzz⟩:=Option.map_eq_some_iff.1 hinfo;simp only[Prod.mk.injEq] at hzz;obtain⟨hz0,hzs,hzb⟩:=hzz;obtain⟨z,hz,hzc⟩:=Option.map_eq_some_iff.1 hz0;have hz1:¬((m:Int)=0):=by omega
 have hz2:¬((i:Int)=(n:Int)):=by omega
 have hz3:(c:Int)<(n:Int)+(m:Int):=by omega
 have hgw:g<w.heap.size:=(Array.getElem?_eq_some_iff.1 hg).1;have hvw:vb<w.heap.size:=(Array.getElem?_eq_some_iff.1 hv).1;have hkk:(n:Int)+(m:Int)-(i:Int)=((n+m-i:Nat):Int):=by omega
 have hik:i+(n+m-i)=n+m:=by omega
 have hdl:((cur.toList.take (n*4)).drop (i*4)).length=(n-i)*4:=by simp only[List.length_drop,List.length_take,Array.length_toList,hcs];rw[Nat.min_eq_left (by omega),Nat.sub_mul]
 have hcl:∀j v,(cur.toList.take (n*4))[j]? =some v->w.cell? ⟨g,j,none⟩=some v:=fun j v h=>by
  rw[List.getElem?_take] at h;split at h
  ·simpa[World.cell?,hg] using h
  ·cases h
 have hcv:∀j v,(vcur.toList.take (m*4))[j]? =some v->w.cell? ⟨vb,j,none⟩=some v:=fun j v h=>by
  rw[List.getElem?_take] at h;split at h
  ·simpa[World.cell?,hv] using h
  ·cases h
 have hold:(Builtin.firstCells i0.size i (.slice (some ⟨g,0,none⟩) i c)).run O w.drew=.ok (cur.toList.take (i*4)).toArray w.drew:=by
  rw[hzs];exact run_firstCells_some w.drew 4 i ⟨g,0,none⟩ i c (cur.toList.take (i*4)) (by simp only[List.length_take,Array.length_toList,hcs];omega) (fun j v hj=>by
   rw[Addr.add_lit,Nat.zero_add];refine hcl j v ?_
   rw[List.getElem?_take] at hj ⊢;split at hj
   ·rw[if_pos (by omega)];exact hj
   ·cases hj)
 have hrz:∀ty,(Builtin.append_ #[64,3] ty #[.slice (some ⟨g,0,none⟩) i c,.int .i64 ((n:Int)+(m:Int)-(i:Int))]).run O w=
   .ok (.slice (some ⟨w.heap.size,0,none⟩) (n+m) (grownCap w (n+m) c 178)) (w.drew.alloc (.cells ((cur.toList.take (i*4)).toArray++Builtin.zeroCells z.cells (n+m-i)++Builtin.zeroCells z.cells (grownCap w (n+m) c 178-(n+m))) 178)):=fun ty=>by
  have h:=Lib.run_append_grow_zeros w 64 3 ty 178 i0 z .i64 .i64 t33 t3 hi0 hz (some ⟨g,0,none⟩) i c (cur.toList.take (i*4)) hold (n+m-i) (by omega) (by omega) (by omega) (by omega) (by rw[hzb];omega) (by rw[hzb,hik];exact growslice_fits hroom hbig)
  rw[hik] at h;rw[hkk];exact h
 obtain⟨G,hG⟩:∃G,G=grownCap w (n+m) c 178:=⟨_,rfl⟩;obtain⟨ROW,hROW⟩:∃ROW:Array Value,ROW=(cur.toList.take (i*4)).toArray++Builtin.zeroCells z.cells (n+m-i)++Builtin.zeroCells z.cells (G-(n+m)):=⟨_,rfl⟩;rw[<-hG] at hrz;rw[<-hROW] at hrz;have hGn:n+m<=G:=by rw[hG];exact grownCap_ge w _ _ _
 have hGm:G<=maxLen:=by rw[hG];exact grownCap_le_maxLen w (n+m) c 178 (by unfold maxLen;omega)
 have hG63:G<=9223372036854775807:=by unfold maxLen at hGm;omega
 have hRl:ROW.size=G*4:=by
  rw[hROW];simp only[Array.size_append,List.size_toArray,size_zeroCells,hzc,List.length_take,Array.length_toList,hcs];omega
 have hRt:ROW.toList.take (i*4)=cur.toList.take (i*4):=by
  rw[hROW];simp only[Array.toList_append,List.append_assoc];have:i*4=(cur.toList.take (i*4)).length:=by simp only[List.length_take,Array.length_toList,hcs];omega
  exact List.take_left' this.symm
 refine⟨G,ROW,w.drew.alloc (.cells ROW 178),hGm,hGn,hRl,hRt,rfl,rfl,rfl,rfl,?_⟩;obtain⟨W1,hW1⟩:∃W1,W1=w.drew.alloc (.cells ROW 178):=⟨_,rfl⟩;rw[<-hW1] at hrz ⊢;have hNew:W1.heap[w.heap.size]? =some (.cells ROW 178 (0,0)):=by rw[hW1];exact heap_alloc_new w.drew _
 have hOld:∀b,b<w.heap.size->W1.heap[b]? =w.heap[b]? :=fun b hb=>by rw[hW1];exact RowKit.Below.heap_alloc w.drew _ b hb
 have hos:W1.os=w.os/\W1.tape=w.tape/\W1.output=w.output:=by rw[hW1];exact⟨rfl,rfl,rfl⟩
 have hgN:g≠w.heap.size:=by omega
 have hvN:vb≠w.heap.size:=by omega
 have hcpA:∀(W:World),W.heap=W1.heap->∀ty dc,(Builtin.copy_ #[64,64] ty #[.slice (some ⟨w.heap.size,i*4,none⟩) (n+m-i) dc,.slice (some ⟨vb,0,none⟩) m vc]).run O W=
   .ok (goInt (Nat.min m (n+m-i))) (W.setRow w.heap.size (bM ROW.toList (i*4) (vcur.toList.take (m*4))).toArray):=fun W hW ty dc=>
  w9 W _ _ ty 178 4 w.heap.size (i*4) (n+m-i) dc ⟨vb,0,none⟩ m vc ROW 178 _ t33 hsz (by rw[hW];exact hNew)
   (by simp only[List.length_take,Array.length_toList,Nat.min_def];split<;>split<;>omega)
   (fun j v hj=>by
    have:=hcv j v hj;rw[Addr.add_lit,Nat.zero_add];unfold World.cell? at this ⊢;rw[hW,show W1.heap[vb]? =w.heap[vb]? from hOld vb hvw];exact this) (by simp only[List.length_take,Array.length_toList];omega) h1v
 obtain⟨R2,hR2⟩:∃R2,R2=(bM ROW.toList (i*4) (vcur.toList.take (m*4))).toArray:=⟨_,rfl⟩;have hE:W1.setRow w.heap.size (bM (bM ROW.toList (i*4) (vcur.toList.take (m*4))) ((i+m)*4) ((cur.toList.take (n*4)).drop (i*4))).toArray=
   (W1.setRow w.heap.size R2).setRow w.heap.size (bM R2.toList ((i+m)*4) ((cur.toList.take (n*4)).drop (i*4))).toArray:=by rw[setRow_setRow,hR2]
 rw[hE];have hR2s:R2.size=G*4:=by rw[hR2];simp only[bM,List.size_toArray,List.length_append,List.length_drop,List.length_take,Array.length_toList,hRl];omega
 rw[<-hR2] at hcpA;clear hE hR2;have hcpB:∀(W:World),W.heap=(W1.setRow w.heap.size R2).heap->∀ty dc sc,(Builtin.copy_ #[64,64] ty #[.slice (some ⟨w.heap.size,(i+m)*4,none⟩) (n+m-(i+m)) dc,.slice (some ⟨g,i*4,none⟩) (n-i) sc]).run O W=
   .ok (goInt (Nat.min (n-i) (n+m-(i+m)))) (W.setRow w.heap.size (bM R2.toList ((i+m)*4) ((cur.toList.take (n*4)).drop (i*4))).toArray):=fun W hW ty dc sc=>
  w9 W _ _ ty 178 4 w.heap.size ((i+m)*4) (n+m-(i+m)) dc ⟨g,i*4,none⟩ (n-i) sc R2 178 _ t33 hsz (by rw[hW];exact setRow_heap W1 w.heap.size ROW R2 178 (0,0) hNew)
   (by rw[hdl];simp only[Nat.min_def];split<;>omega)
   (fun j v hj=>by
    have:=hcl (i*4+j) v (by rwa[List.getElem?_drop] at hj)
    rw[Addr.add_lit];unfold World.cell? at this ⊢;rw[hW,show(W1.setRow w.heap.size R2).heap[g]? =w.heap[g]? from(setRow_other W1 w.heap.size g R2 hgN).trans (hOld g hgw)];exact this) (by rw[hdl,hR2s];omega) (fun v hv=>h1c v (List.mem_of_mem_drop hv))
 have hGi:¬(G=i):=by omega
 have hGim:¬(G=i+m):=by omega
 have hci:¬(c=i):=by omega
 have hw1:IntKind.i64.wrap ((i:Int)+(m:Int))=(i:Int)+(m:Int):=by rw[IntKind.wrap_i64];omega
 have hb1:(0:Int)<=(i:Int)+(m:Int):=by omega
 have hin:i<=n:=by omega
 have htn:((i:Int)+(m:Int)).toNat=i+m:=by omega
 have hb3:(i:Int)<=(n:Int):=by omega
 clear hkk hik hold hROW hG hRl hW1;go_enter Tryz.func230,Tryz.ntmps230
 go_wp2_with (first
  |(at_builtin;refine Dg _ rfl _ _ 64 3 rfl _ _ rfl rfl (hrz _) ?_)
  |(at_builtin;refine MB _ rfl _ _ 64 64 rfl _ _ rfl rfl (hcpA _ rfl _ _) ?_))
 go_region_law (refine M2 rfl _ _ 64 64 rfl (.slice (some ⟨w.heap.size,(i+m)*4,none⟩) (n+m-(i+m)) (G-(i+m))) (.slice (some ⟨g,i*4,none⟩) (n-i) (c-i)) (by simp[Act.eval,Act.put]) (by simp[Act.eval,Act.put]) (hcpB (W1.setRow w.heap.size R2).drew rfl 3 (G-(i+m)) (c-i)) ?_)
 go_wp2
 go_ret
 exact⟨rfl,hos.1,hos.2.1,hos.2.2,rfl⟩
noncomputable def U4:aB:=Ha .entry 48
theorem an9:ay O 230 U4:=agX (t:=.entry) (bt:=48) rfl (by decide) (T:=64) (e:=178) ⟨ag0,agZ,ai3,ai2,agY,ai1⟩ (fun vs w=>enters_of Tryz.func230 (by kernel_rfl) rfl _ _) (by kernel_rfl) (by kernel_rfl)
noncomputable abbrev asu:a7:=[(105,vu),(201,JM),(229,Yg),(230,U4)]
theorem B2:aQ O (aY ad asu):=aV ⟨z105,z201,z229,an9,⟨⟩⟩
abbrev Rb:Shape:=⟨[aK 0 .entry,aK 1 .entry],[],59⟩
abbrev QT:List aO:=[(.norm,⟨[aK 0 .entry,aK 1 .entry,ap 18],[],59⟩)]
noncomputable def Hl(y:Rb.F):Option (aA QT):=
(f105 ((y.1.1,()),())).bind fun a=>
 bif(!(!a.1.1)) then
(f105 ((y.1.2.1,()),())).bind fun b=>
 some ((y.1.1,y.1.2.1,(!b.1.1),()),())
else
 some ((y.1.1,y.1.2.1,true,()),())
theorem akw:aT O (an (codeOf Tryz.f185) 1 12) (aU Rb QT Hl):=b8 B2 (by kernel_rfl) af fun y=>by kernel_rfl
abbrev M5:Shape:=⟨[a_ 6 3000384,au 8 8 0,ag 9,aK 21 .entry,ag 22,ag 23],[a8 3000384 .entry 6 0,ar 8 [ah,aX,aX,ah]],59⟩
abbrev MY:List aO:=[(.norm,⟨[a_ 6 3000384,aK 21 .entry,ag 22,ag 23,ap 42,au 43 8 1,ag 44,ap 45,ap 46,ap 53],[a8 3000384 .entry 6 0,ar 8 [ah,aX,aX,ah]],59⟩)]
noncomputable def Dz(y:M5.F):Option (aA MY):=
 bif(y.2.2.1.2.1 !=(1:Int)) then
 some (((),y.1.2.2.2.1,y.1.2.2.2.2.1,y.1.2.2.2.2.2.1,true,(),y.2.2.1.2.1,(y.2.2.1.2.1 !=(1:Int)),true,true,()),y.2.1,(y.2.2.1.1,y.2.2.1.2.1,y.2.2.1.2.2.1,y.2.2.1.2.2.2.1,()),())
else
(bk y.2.1.length y.1.2.2.1).bind fun a=>
(y.2.1[a]?).bind fun b=>
 some (((),y.1.2.2.2.1,y.1.2.2.2.2.1,y.1.2.2.2.2.2.1,(!((b.path==y.2.2.1.1)&&((b.kind==y.2.2.1.2.1)&&((b.mode==y.2.2.1.2.2.1)&&(b.text==y.2.2.1.2.2.2.1))))),(),y.2.2.1.2.1,(y.2.2.1.2.1 !=(1:Int)),false,(!((b.path==y.2.2.1.1)&&((b.kind==y.2.2.1.2.1)&&((b.mode==y.2.2.1.2.2.1)&&(b.text==y.2.2.1.2.2.2.1))))),()),y.2.1,(y.2.2.1.1,y.2.2.1.2.1,y.2.2.1.2.2.1,y.2.2.1.2.2.2.1,()),())
theorem adQ:aT O (an (cN (an (codeOf Tryz.f185) 1 122)) 244 250678) (aU M5 MY Dz):=b8 B2 (by kernel_rfl) af fun y=>by kernel_rfl
abbrev x1:Shape:=⟨[a_ 6 3000384,aK 21 .entry,ag 22,ag 23],[a8 3000384 .entry 6 0],59⟩
abbrev pC:List aO:=[(.ret,⟨[a_ 4 3000256,ap 5],[a8 3000256 .entry 4 0],59⟩),(.exit 0,⟨[a_ 6 3000384],[a8 3000384 .entry 6 0],59⟩)]
noncomputable def yo(y:x1.F):bD x1 pC:=
 bif(decide (y.1.2.2.2.1<y.1.2.2.1)) then
(aN y.1.2.1 y.1.2.2.2.1).bind fun a=>
(f201 ((y.2.1,a.path,()),())).bind fun b=>
 bif(!b.1.2.1) then
(sI 48 y.2.1 b.1.1 ([a]:List az)).bind fun c=>
 some (.inl (((),y.1.2.1,y.1.2.2.1,(IntKind.i64.wrap (y.1.2.2.2.1+(1:Int))),()),c,()))
else
(Dz (((),(),b.1.1,y.1.2.1,y.1.2.2.1,y.1.2.2.2.1,()),y.2.1,(a.path,a.kind,a.mode,a.text,()),())).bind fun d=>
 bif d.1.2.2.2.2.1 then
 some (.inr (.inl (((),false,()),([]:List az),())))
else
 some (.inl (((),d.1.2.1,d.1.2.2.1,(IntKind.i64.wrap (d.1.2.2.2.1+(1:Int))),()),d.2.1,()))
else
 some (.inr (.inr (((),()),y.2.1,())))
noncomputable def Fq:x1.F->Option (aA pC):=bo yo
theorem aiw:aT O (an (codeOf Tryz.f185) 1 122) (aU x1 pC Fq):=bE B2 (by kernel_rfl) (a6 adQ af) fun y=>by kernel_rfl
abbrev i185:Shape:=⟨[aK 0 .entry,aK 1 .entry],[],59⟩
abbrev Wo:Shape:=⟨[a_ 4 3000256,ap 5],[a8 3000256 .entry 4 0],59⟩
noncomputable def f185(a:i185.F):Option Wo.F:=
(Hl ((a.1.1,a.1.2.1,()),())).bind fun b=>
 bif b.1.2.2.1 then
 some (((),false,()),([]:List az),())
else
(f229 ((b.1.1,()),())).bind fun c=>
(Fq (((),b.1.2.1,(b.1.2.1.length:Int),(0:Int),()),c.2.1,())).bind fun d=>
(match d with
|.inl e=>
 some (((),e.1.2.1,()),e.2.1,())
|.inr f=>
(f105 ((f.2.1,()),())).bind fun g=>
 bif(!g.1.1) then
 some (((),false,()),([]:List az),())
else
 some (((),true,()),f.2.1,()))
noncomputable def YD:aB:=aG ad Tryz.f185 i185 Wo [] f185
theorem ap3:ay O 185 YD:=aJ B2 Tryz.func185 (by kernel_rfl) (a6 akw (a6 aiw af)) (fun y=>by kernel_rfl) fun a=>by kernel_rfl
noncomputable abbrev as3:a7:=[(185,YD)]
theorem ZJ:aQ O (aY ad as3):=aV ⟨ap3,⟨⟩⟩
abbrev y5:Shape:=⟨[a_ 4 3000256,aK 9 .pack,ag 10,ag 11],[a8 3000256 .entry 4 0],27⟩
abbrev pM:List aO:=[(.ret,⟨[a_ 2 3000128,ap 3],[a8 3000128 .entry 2 0],27⟩),(.exit 0,⟨[a_ 4 3000256],[a8 3000256 .entry 4 0],27⟩)]
noncomputable def zF(y:y5.F):bD y5 pM:=
 bif(decide (y.1.2.2.2.1<y.1.2.2.1)) then
(aN y.1.2.1 y.1.2.2.2.1).bind fun a=>
(f185 ((y.2.1,a.bH,()),())).bind fun b=>
 bif(!b.1.2.1) then
 some (.inr (.inl (((),false,()),([]:List az),())))
else
 some (.inl (((),y.1.2.1,y.1.2.2.1,(IntKind.i64.wrap (y.1.2.2.2.1+(1:Int))),()),b.2.1,()))
else
 some (.inr (.inr (((),()),y.2.1,())))
noncomputable def G3:y5.F->Option (aA pM):=bo zF
theorem akU:aT O (an (codeOf Tryz.f133) 1 58) (aU y5 pM G3):=bE ZJ (by kernel_rfl) af fun y=>by kernel_rfl
abbrev i133:Shape:=⟨[aK 0 .pack],[],27⟩
abbrev W3:Shape:=⟨[a_ 2 3000128,ap 3],[a8 3000128 .entry 2 0],27⟩
noncomputable def f133(a:i133.F):Option W3.F:=
(G3 (((),a.1.1,(a.1.1.length:Int),(0:Int),()),([]:List az),())).bind fun b=>
(match b with
|.inl c=>
 some (((),c.1.2.1,()),c.2.1,())
|.inr d=>
 some (((),true,()),d.2.1,()))
noncomputable def Y9:aB:=aG ad Tryz.f133 i133 W3 [] f133
theorem aqn:ay O 133 Y9:=aJ ZJ Tryz.func133 (by kernel_rfl) (a6 akU af) (fun y=>by kernel_rfl) fun a=>by kernel_rfl
theorem Eu:∀(r:List az) (out B:List az),(∀e,e∈r->ls e)->(∀e,e∈out->ls e)->gj out r=some B->B.length<=out.length+r.length/\∀e,e∈B->ls e:=by
 intro r;induction r with
 |nil=>intro out B _ h2 h;cases h;exact⟨Nat.le_refl _,h2⟩
 |cons e r ih=>
  intro out B h1 h2 h;rw[tM] at h;obtain⟨o1,h3,aE⟩:=Option.bind_eq_some_iff.1 h;have bi:=ih o1 B (fun x hx=>h1 x (List.mem_cons_of_mem _ hx)) (fun x hx=>by
   rcases Ea h3 hx with rfl|h
   ·exact h1 x List.mem_cons_self
   ·exact h2 x h) aE
  have ca:=xl h3;exact⟨by simp only[List.length_cons];omega,bi.2⟩
theorem DC{t:List az}(h:dC t=true):fm t:=by
 unfold dC at h;simp only[Bool.and_eq_true] at h;exact TY h.1.1
theorem kM{t:List az}(h:dC t=true):t.length<=16:=by
 unfold dC at h;simp only[Bool.and_eq_true,decide_eq_true_eq] at h;exact h.2
theorem ahM(a)(hs:b9 a.1.1.length):f229 a=some (((),()),(a.1.1,())):=by
 obtain⟨⟨xs,u⟩,bT⟩:=a;have hs:xs.length<=2097152:=hs;have h2:(cj 48 ([]:List az) xs).bind (fun x=>some (((),()),(x,())))=(some (((),()),(xs,())):Option I5.F):=by
  rw[dt (by decide) (by unfold ax;simp only[List.length_nil];omega)];rfl
 simp only[f229];rw[h2];unfold py;split
 ·rfl
 ·rename_i h;exact absurd (fun he:xs=[]=>by subst he;rfl) h
theorem aey(a)(ha:iu a.1.1)(hb:iu a.1.2.1)(h1:dC a.1.1=true)(h2:dC a.1.2.1=true):f185 a=
  some (match gj a.1.1 a.1.2.1 with|some out=>(bif dC out then(((),(true,())),(out,())) else(((),(false,())),(([]:List az),())))|none=>(((),(false,())),(([]:List az),()))):=by
 obtain⟨⟨xs,bg,u⟩,bT⟩:=a;have h1:dC xs=true:=h1;have h2:dC bg=true:=h2;have az0:=kM h1;have azZ:=kM h2;have e1:=pv ((xs,()),()) ha;have e2:=pv ((bg,()),()) hb;have bv:=ahM ((xs,()),()) (show xs.length<=2097152 by omega)
 have key:Fq (((),(bg,((bg.length:Int),((0:Int),())))),(xs,()))=_:=lE yo bg (fun i (out:List az)=>(((),(bg,((bg.length:Int),((i:Int),())))),(out,())))
  (fun i e out=>some (match gZ out e with|some B=>.inl B|none=>.inr ((.inl (((),(false,())),(([]:List az),()))):aA pC))) (fun out=>((.inr (((),()),(out,()))):aA pC))
  (fun i out=>out.length<=xs.length+i/\fm out) xs ⟨Nat.le_refl _,DC h1⟩ (fun i x out hx c'=>?_) (fun out _=>?_)
 ·have fold:∀(r:List az) (k:Nat) (out:List az),eF (fun i e out=>some (match gZ out e with|some B=>.inl B|none=>.inr ((.inl (((),(false,())),(([]:List az),()))):aA pC))) (fun out=>((.inr (((),()),(out,()))):aA pC)) k r out=
    some (match gj out r with|some B=>.inr (((),()),(B,()))|none=>.inl (((),(false,())),(([]:List az),()))):=by
   intro r;induction r with
   |nil=>intro k out;rfl
   |cons e r ih=>
    intro k out;rw[tM];simp only[eF];cases gZ out e with
    |none=>rfl
    |some B=>simp only[Option.bind_some];exact ih _ _
  rw[fold] at key;simp only[f185,Hl,e1,e2,h1,h2,bv,Bool.not_true,Bool.not_false,cond_true,cond_false,Option.bind_some,key];cases hj:gj xs bg with
  |none=>rfl
  |some B=>
   have hm:=Eu bg xs B hb.2 ha.2 hj;simp only[Option.bind_some];rw[pv _ ⟨show B.length<=2097152 by omega,hm.2⟩]
   simp only[Option.bind_some];cases dC B<;>rfl
 ·have hi:=cD hx;have hw:ax i:=by unfold ax;omega
  refine⟨?_,fun aM aj=>?_⟩
  ·have l':=MU ((out,(x.path,())),()) (show out.length<=2097152 by omega) c'.2
   have s9:=pO out x.path;simp only[yo,cq hi,cond_true,bY,hx,Option.bind_some,l',gm,gZ];have grow:sI 48 out (bK out x.path:Int) [x]=some (jl out (bK out x.path) x):=by
    unfold sI;rw[if_pos ⟨by omega,by omega,by unfold room;simp only[List.length_cons,List.length_nil];omega,by unfold maxLen;simp only[List.length_cons,List.length_nil];omega⟩,Int.toNat_natCast]
    rfl
   cases aC:out[bK out x.path]? with
   |none=>simp only[Bool.not_false,cond_true,grow,Option.bind_some,b4 hw];rfl
   |some q=>
    have hin:=fO (cD aC);simp only;cases hp:(q.path==x.path) with
    |false=>simp only[Bool.not_false,cond_true,grow,Option.bind_some,b4 hw,cond_false];rfl
    |true=>
     have th:((q.path==x.path)&&((q.kind==x.kind)&&((q.mode==x.mode)&&(q.text==x.text))))=j2 q x:=rfl;simp only[Bool.not_true,cond_false,cond_true,Dz,hin,aC,Option.bind_some,lZ,ajk x q];cases hk:(x.kind !=1) with
     |true=>rfl
     |false=>
      have arz:(j2 q x)=((q.path==x.path)&&((q.kind==x.kind)&&((q.mode==x.mode)&&(q.text==x.text)))):=rfl;rw[arz];cases ((q.path==x.path)&&((q.kind==x.kind)&&((q.mode==x.mode)&&(q.text==x.text)))) with
      |false=>rfl
      |true=>simp only[Bool.not_true,Bool.false_or,cond_false,Option.bind_some,b4 hw];rfl
  ·simp only[Option.some.injEq] at aj;cases hs:gZ out x with
   |none=>rw[hs] at aj;cases aj
   |some B=>
    rw[hs] at aj;cases aj;have ca:=xl hs;exact⟨by omega,afX c'.2 hs⟩
 ·simp only[yo,dd,cond_false]
def e9(out:List az):List aS->Option (List az)
 |[]=>some out
 |p::r=>match gj out p.bH with
  |some B=>bif dC B then e9 B r else none
  |none=>none
def stepT(out:List az)(p:aS):Option (List az):=match gj out p.bH with
 |some B=>bif dC B then some B else none
 |none=>none
theorem wX(out:List az)(p:aS)(r:List aS):e9 out (p::r)=(stepT out p).bind fun B=>e9 B r:=by
 unfold stepT;rw[e9];cases gj out p.bH with
 |none=>rfl
 |some B=>simp only;cases dC B<;>rfl
theorem xP{out B:List az}{p:aS}(h:stepT out p=some B):dC B=true/\gj out p.bH=some B:=by
 unfold stepT at h;split at h
 ·rename_i cP aL;cases aw:dC cP with
  |true=>rw[aw] at h;cases h;exact⟨aw,aL⟩
  |false=>rw[aw] at h;cases h
 ·cases h
theorem afw(a)(hb:fj a.1.1)(hk:a.1.1.all ct=true):f109 a=some (((),((e9 [] a.1.1).isSome,())),((e9 [] a.1.1).getD [],())):=by
 obtain⟨⟨ps,u⟩,bT⟩:=a;have hl:ps.length<=2097152:=hb.1;have KH:∀p,p∈ps->dC p.bH=true/\iu p.bH:=by
  intro p hp;have:=List.all_eq_true.1 hk p hp;unfold ct at this;simp only[Bool.and_eq_true] at this;exact⟨this.2,(hb.2 p hp).2.2.2⟩
 have key:G7 ((ps,((),((0:Int),()))),(([]:List az),()))=_:=lE zJ ps (fun i (out:List az)=>((ps,((),((i:Int),()))),(out,())))
  (fun i p out=>some (match stepT out p with|some B=>.inl B|none=>.inr ((.inl (((),(false,())),(([]:List az),()))):aA pN))) (fun out=>((.inr (((),()),(out,()))):aA pN))
  (fun i out=>out.length<=16/\∀e,e∈out->ls e) [] ⟨Nat.zero_le _,fun e h=>by cases h⟩ (fun i x out hx c'=>?_) (fun out _=>?_)
 ·have fold:∀(r:List aS) (k:Nat) (out:List az),eF (fun i p out=>some (match stepT out p with|some B=>.inl B|none=>.inr ((.inl (((),(false,())),(([]:List az),()))):aA pN))) (fun out=>((.inr (((),()),(out,()))):aA pN)) k r out=
    some (match e9 out r with|some B=>.inr (((),()),(B,()))|none=>.inl (((),(false,())),(([]:List az),()))):=by
   intro r;induction r with
   |nil=>intro k out;rfl
   |cons p r ih=>
    intro k out;rw[wX];simp only[eF];cases stepT out p with
    |none=>rfl
    |some B=>simp only[Option.bind_some];exact ih _ _
  rw[fold] at key;simp only[f109,key,Option.bind_some];cases e9 [] ps with
  |none=>rfl
  |some B=>rfl
 ·have hi:=cD hx;have hw:ax i:=by unfold ax;omega
  obtain⟨KI,nV⟩:=KH x (List.mem_of_getElem? hx);have CJ:=kM KI;have ea:iu out:=⟨show out.length<=2097152 by omega,c'.2⟩
  refine⟨?_,fun aM aj=>?_⟩
  ·have hj:=ahA ((out,(x.bH,())),()) ea nV (show out.length+x.bH.length<=2097152 by omega)
   simp only[zJ,cq hi,cond_true,bY,hx,Option.bind_some,hj,stepT];cases gj out x.bH with
   |none=>rfl
   |some B=>
    simp only;cases dC B with
    |false=>rfl
    |true=>simp only[Bool.not_true,cond_false,cond_true,b4 hw];rfl
  ·simp only[Option.some.injEq] at aj;cases hs:stepT out x with
   |none=>rw[hs] at aj;cases aj
   |some B=>
    rw[hs] at aj;cases aj;obtain⟨bi,ca⟩:=xP hs;exact⟨kM bi,(Eu _ _ _ nV.2 c'.2 ca).2⟩
 ·simp only[zJ,dd,cond_false]
theorem Po(a)(hb:fj a.1.1)(hk:a.1.1.all ct=true):∃out,f109 a=some (((),((e9 [] a.1.1).isSome,())),(out,())):=⟨_,afw a hb hk⟩
theorem acV(a)(hb:fj a.1.1)(hk:a.1.1.all ct=true):f133 a=some (((),((e9 [] a.1.1).isSome,())),((e9 [] a.1.1).getD [],())):=by
 obtain⟨⟨ps,u⟩,bT⟩:=a;have hl:ps.length<=2097152:=hb.1;have KH:∀p,p∈ps->dC p.bH=true/\iu p.bH:=by
  intro p hp;have:=List.all_eq_true.1 hk p hp;unfold ct at this;simp only[Bool.and_eq_true] at this;exact⟨this.2,(hb.2 p hp).2.2.2⟩
 have key:G3 (((),(ps,((ps.length:Int),((0:Int),())))),(([]:List az),()))=_:=lE zF ps (fun i (out:List az)=>(((),(ps,((ps.length:Int),((i:Int),())))),(out,())))
  (fun i p out=>some (match stepT out p with|some B=>.inl B|none=>.inr ((.inl (((),(false,())),(([]:List az),()))):aA pM))) (fun out=>((.inr (((),()),(out,()))):aA pM))
  (fun i out=>dC out=true/\∀e,e∈out->ls e) [] ⟨rfl,fun e h=>by cases h⟩ (fun i x out hx c'=>?_) (fun out _=>?_)
 ·have fold:∀(r:List aS) (k:Nat) (out:List az),eF (fun i p out=>some (match stepT out p with|some B=>.inl B|none=>.inr ((.inl (((),(false,())),(([]:List az),()))):aA pM))) (fun out=>((.inr (((),()),(out,()))):aA pM)) k r out=
    some (match e9 out r with|some B=>.inr (((),()),(B,()))|none=>.inl (((),(false,())),(([]:List az),()))):=by
   intro r;induction r with
   |nil=>intro k out;rfl
   |cons p r ih=>
    intro k out;rw[wX];simp only[eF];cases stepT out p with
    |none=>rfl
    |some B=>simp only[Option.bind_some];exact ih _ _
  rw[fold] at key;simp only[f133,key,Option.bind_some];cases e9 [] ps with
  |none=>rfl
  |some B=>rfl
 ·have hi:=cD hx;have hw:ax i:=by unfold ax;omega
  obtain⟨KI,nV⟩:=KH x (List.mem_of_getElem? hx);have CJ:=kM c'.1;have ea:iu out:=⟨show out.length<=2097152 by omega,c'.2⟩
  refine⟨?_,fun aM aj=>?_⟩
  ·have hj:=aey ((out,(x.bH,())),()) ea nV c'.1 KI;simp only[zF,cq hi,cond_true,bY,hx,Option.bind_some,hj,stepT];cases gj out x.bH with
   |none=>rfl
   |some B=>
    simp only;cases dC B with
    |false=>rfl
    |true=>simp only[Bool.not_true,cond_false,cond_true,b4 hw];rfl
  ·simp only[Option.some.injEq] at aj;cases hs:stepT out x with
   |none=>rw[hs] at aj;cases aj
   |some B=>
    rw[hs] at aj;cases aj;obtain⟨bi,ca⟩:=xP hs;exact⟨bi,(Eu _ _ _ nV.2 c'.2 ca).2⟩
 ·simp only[zF,dd,cond_false]
theorem adx(a)(hb:fj a.1.1)(hk:a.1.1.all ct=true):∃out,f133 a=some (((),((e9 [] a.1.1).isSome,())),(out,())):=⟨_,acV a hb hk⟩
abbrev PX:Shape:=⟨[aK 0 .i64,aK 1 .i64,ag 5],[],42⟩
abbrev PF:List aO:=[(.norm,⟨[aK 0 .i64,aK 1 .i64,ag 5],[],42⟩),(.exit 0,⟨[],[],42⟩)]
noncomputable def rz(y:PX.F):Option (aA PF):=
 bif(!(decide (y.1.2.2.1<(y.1.1.length:Int)))) then
 bif(decide (y.1.2.2.1<(y.1.2.1.length:Int))) then
 some (.inl ((y.1.1,y.1.2.1,y.1.2.2.1,()),()))
else
 some (.inr ((),()))
else
 some (.inl ((y.1.1,y.1.2.1,y.1.2.2.1,()),()))
theorem ain:aT O (an (cN (an (codeOf Tryz.f238) 1 26)) 52 104) (aU PX PF rz):=b8 g0 (by kernel_rfl) af fun y=>by kernel_rfl
abbrev OE:Shape:=⟨[aK 0 .i64,aK 1 .i64,ag 5,ag 6,ag 7],[],42⟩
abbrev Oi:List aO:=[(.norm,⟨[aK 0 .i64,aK 1 .i64,ag 5,ag 6,ag 7],[],42⟩)]
noncomputable def tT(y:OE.F):Option (aA Oi):=
 bif(decide (y.1.2.2.1<(y.1.1.length:Int))) then
(aN y.1.1 y.1.2.2.1).bind fun a=>
 some ((y.1.1,y.1.2.1,y.1.2.2.1,a,y.1.2.2.2.2.1,()),())
else
 some ((y.1.1,y.1.2.1,y.1.2.2.1,y.1.2.2.2.1,y.1.2.2.2.2.1,()),())
theorem agl:aT O (an (cN (an (codeOf Tryz.f238) 1 26)) 52 3366) (aU OE Oi tT):=b8 g0 (by kernel_rfl) af fun y=>by kernel_rfl
abbrev OD:Shape:=⟨[aK 0 .i64,aK 1 .i64,ag 5,ag 6,ag 7],[],42⟩
abbrev Oh:List aO:=[(.norm,⟨[aK 0 .i64,aK 1 .i64,ag 5,ag 6,ag 7],[],42⟩)]
noncomputable def tS(y:OD.F):Option (aA Oh):=
 bif(decide (y.1.2.2.1<(y.1.2.1.length:Int))) then
(aN y.1.2.1 y.1.2.2.1).bind fun a=>
 some ((y.1.1,y.1.2.1,y.1.2.2.1,y.1.2.2.2.1,a,()),())
else
 some ((y.1.1,y.1.2.1,y.1.2.2.1,y.1.2.2.2.1,y.1.2.2.2.2.1,()),())
theorem agk:aT O (an (cN (an (codeOf Tryz.f238) 1 26)) 52 6734) (aU OD Oh tS):=b8 g0 (by kernel_rfl) af fun y=>by kernel_rfl
abbrev yF:Shape:=⟨[aK 0 .i64,aK 1 .i64,ag 5],[],42⟩
abbrev F3:List aO:=[(.ret,⟨[ag 4],[],42⟩),(.exit 0,⟨[],[],42⟩)]
noncomputable def rJ(y:yF.F):bD yF F3:=
(rz ((y.1.1,y.1.2.1,y.1.2.2.1,()),())).bind fun a=>
(match a with
|.inl b=>
(tT ((b.1.1,b.1.2.1,b.1.2.2.1,((-1):Int),((-1):Int),()),())).bind fun c=>
(tS ((c.1.1,c.1.2.1,c.1.2.2.1,c.1.2.2.2.1,c.1.2.2.2.2.1,()),())).bind fun d=>
 bif(decide (d.1.2.2.2.1<d.1.2.2.2.2.1)) then
 some (.inr (.inl ((((-1):Int),()),())))
else
 bif(decide (d.1.2.2.2.1>d.1.2.2.2.2.1)) then
 some (.inr (.inl (((1:Int),()),())))
else
 some (.inl ((d.1.1,d.1.2.1,(IntKind.i64.wrap (d.1.2.2.1+(1:Int))),()),()))
|.inr e=>
 some (.inr (.inr ((),()))))
noncomputable def np:yF.F->Option (aA F3):=bo rJ
theorem akk:aT O (an (codeOf Tryz.f238) 1 26) (aU yF F3 np):=bE g0 (by kernel_rfl) (a6 ain (a6 agl (a6 agk af))) fun y=>by kernel_rfl
abbrev i238:Shape:=⟨[aK 0 .i64,aK 1 .i64],[],42⟩
abbrev I4:Shape:=⟨[ag 4],[],42⟩
noncomputable def f238(a:i238.F):Option I4.F:=
(np ((a.1.1,a.1.2.1,(0:Int),()),())).bind fun b=>
(match b with
|.inl c=>
 some ((c.1.1,()),())
|.inr d=>
 some (((0:Int),()),()))
noncomputable def Yc:aB:=aG ad Tryz.f238 i238 I4 [] f238
theorem apJ:ay O 238 Yc:=aJ g0 Tryz.func238 (by kernel_rfl) (a6 akk af) (fun y=>by kernel_rfl) fun a=>by kernel_rfl
noncomputable abbrev asn:a7:=[(140,JY),(238,Yc)]
theorem Zs:aQ O (aY ad asn):=aV ⟨Vm,apJ,⟨⟩⟩
abbrev Ra:Shape:=⟨[a_ 5 3000320,ap 6,a_ 7 3000448,ap 8],[a8 3000320 .i64 5 0,a8 3000448 .i64 7 0],28⟩
abbrev QS:List aO:=[(.norm,⟨[a_ 5 3000320,a_ 7 3000448,ap 24],[a8 3000320 .i64 5 0,a8 3000448 .i64 7 0],28⟩)]
noncomputable def Hk(y:Ra.F):Option (aA QS):=
 bif(!(!y.1.2.1)) then
 some (((),(),(!y.1.2.2.2.1),()),y.2.1,y.2.2.1,())
else
 some (((),(),true,()),y.2.1,y.2.2.1,())
theorem akq:aT O (an (codeOf Tryz.f204) 1 60) (aU Ra QS Hk):=b8 Zs (by kernel_rfl) af fun y=>by kernel_rfl
abbrev i204:Shape:=⟨[ak 0,ak 1],[],28⟩
abbrev V_:Shape:=⟨[ag 4],[],28⟩
noncomputable def f204(a:i204.F):Option V_.F:=
(f140 ((a.1.1,()),())).bind fun b=>
(f140 ((a.1.2.1,()),())).bind fun c=>
(Hk (((),b.1.2.1,(),c.1.2.1,()),b.2.1,c.2.1,())).bind fun d=>
 bif d.1.2.2.1 then
 some (((0:Int),()),())
else
(f238 ((d.2.1,d.2.2.1,()),())).bind fun e=>
 some ((e.1.1,()),())
noncomputable def Ys:aB:=aG ad Tryz.f204 i204 V_ [] f204
theorem apT:ay O 204 Ys:=aJ Zs Tryz.func204 (by kernel_rfl) (a6 akq af) (fun y=>by kernel_rfl) fun a=>by kernel_rfl
noncomputable abbrev asK:a7:=[(204,Ys)]
theorem atL:aQ O (aY ad asK):=aV ⟨apT,⟨⟩⟩
abbrev i161:Shape:=⟨[b5 0 [ah,aX,ah],ak 1,ak 2],[],30⟩
abbrev WF:Shape:=⟨[ap 6],[],30⟩
noncomputable def f161(a:i161.F):Option WF.F:=
 bif(!(a.1.1.1==a.1.2.1)) then
 some ((false,()),())
else
(f204 ((a.1.2.2.1,a.1.1.2.2.1,()),())).bind fun b=>
 bif(a.1.1.2.1==(1:Int)) then
 some (((b.1.1==(0:Int)),()),())
else
 bif(a.1.1.2.1==(2:Int)) then
 some (((decide (b.1.1>=(0:Int))),()),())
else
 bif(a.1.1.2.1==(3:Int)) then
 some (((decide (b.1.1<(0:Int))),()),())
else
 some ((true,()),())
noncomputable def YT:aB:=aG ad Tryz.f161 i161 WF [] f161
theorem aqd:ay O 161 YT:=aJ atL Tryz.func161 (by kernel_rfl) af (fun y=>by kernel_rfl) fun a=>by kernel_rfl
abbrev i288:Shape:=⟨[ag 0],[],6⟩
abbrev Vy:Shape:=⟨[ap 2],[],6⟩
noncomputable def f288(a:i288.F):Option Vy.F:=
 some (((a.1.1 !=a.1.1),()),())
noncomputable def XV:aB:=aG ad Tryz.f288 i288 Vy [] f288
theorem apr:ay O 288 XV:=aJ g0 Tryz.func288 (by kernel_rfl) af (fun y=>by kernel_rfl) fun a=>by kernel_rfl
noncomputable abbrev arV:a7:=[(288,XV)]
theorem ato:aQ O (aY ad arV):=aV ⟨apr,⟨⟩⟩
abbrev i286:Shape:=⟨[ag 0,ag 1],[],20⟩
abbrev Vz:Shape:=⟨[ag 4],[],20⟩
noncomputable def f286(a:i286.F):Option Vz.F:=
(f288 ((a.1.1,()),())).bind fun b=>
(f288 ((a.1.2.1,()),())).bind fun c=>
 bif b.1.1 then
 bif c.1.1 then
 some (((0:Int),()),())
else
 some ((((-1):Int),()),())
else
 bif c.1.1 then
 some (((1:Int),()),())
else
 bif(decide (a.1.1<a.1.2.1)) then
 some ((((-1):Int),()),())
else
 bif(decide (a.1.1>a.1.2.1)) then
 some (((1:Int),()),())
else
 some (((0:Int),()),())
noncomputable def XW:aB:=aG ad Tryz.f286 i286 Vz [] f286
theorem aps:ay O 286 XW:=aJ ato Tryz.func286 (by kernel_rfl) af (fun y=>by kernel_rfl) fun a=>by kernel_rfl
noncomputable abbrev arX:a7:=[(286,XW)]
theorem Zn:aQ O (aY ad arX):=aV ⟨aps,⟨⟩⟩
abbrev yz:Shape:=⟨[aK 0 .i64,aK 1 .i64,aK 9 .i64,ag 10,ag 11],[],36⟩
abbrev FX:List aO:=[(.ret,⟨[ag 4],[],36⟩),(.exit 0,⟨[aK 0 .i64,aK 1 .i64],[],36⟩)]
noncomputable def un(y:yz.F):bD yz FX:=
 bif(decide (y.1.2.2.2.2.1<y.1.2.2.2.1)) then
(aN y.1.2.2.1 y.1.2.2.2.2.1).bind fun a=>
 bif(decide (y.1.2.2.2.2.1>=(y.1.2.1.length:Int))) then
 some (.inr (.inl (((1:Int),()),())))
else
(aN y.1.2.1 y.1.2.2.2.2.1).bind fun b=>
(f286 ((a,b,()),())).bind fun c=>
 bif(c.1.1 !=(0:Int)) then
 some (.inr (.inl ((c.1.1,()),())))
else
 some (.inl ((y.1.1,y.1.2.1,y.1.2.2.1,y.1.2.2.2.1,(IntKind.i64.wrap (y.1.2.2.2.2.1+(1:Int))),()),()))
else
 some (.inr (.inr ((y.1.1,y.1.2.1,()),())))
noncomputable def ou:yz.F->Option (aA FX):=bo un
theorem ake:aT O (an (codeOf Tryz.f281) 1 26) (aU yz FX ou):=bE Zn (by kernel_rfl) af fun y=>by kernel_rfl
abbrev i281:Shape:=⟨[aK 0 .i64,aK 1 .i64],[],36⟩
abbrev I3:Shape:=⟨[ag 4],[],36⟩
noncomputable def f281(a:i281.F):Option I3.F:=
(ou ((a.1.1,a.1.2.1,a.1.1,(a.1.1.length:Int),(0:Int),()),())).bind fun b=>
(match b with
|.inl c=>
 some ((c.1.1,()),())
|.inr d=>
 bif(decide ((d.1.1.length:Int)<(d.1.2.1.length:Int))) then
 some ((((-1):Int),()),())
else
 some (((0:Int),()),()))
noncomputable def XZ:aB:=aG ad Tryz.f281 i281 I3 [] f281
theorem apv:ay O 281 XZ:=aJ Zn Tryz.func281 (by kernel_rfl) (a6 ake af) (fun y=>by kernel_rfl) fun a=>by kernel_rfl
noncomputable abbrev ar2:a7:=[(281,XZ)]
theorem atr:aQ O (aY ad ar2):=aV ⟨apv,⟨⟩⟩
abbrev i263:Shape:=⟨[aK 0 .i64,aK 1 .i64],[],8⟩
abbrev VJ:Shape:=⟨[ag 4],[],8⟩
noncomputable def f263(a:i263.F):Option VJ.F:=
(f281 ((a.1.1,a.1.2.1,()),())).bind fun b=>
 some ((b.1.1,()),())
noncomputable def X6:aB:=aG ad Tryz.f263 i263 VJ [] f263
theorem apC:ay O 263 X6:=aJ atr Tryz.func263 (by kernel_rfl) af (fun y=>by kernel_rfl) fun a=>by kernel_rfl
noncomputable abbrev ar9:a7:=[(151,JU),(263,X6)]
theorem Zp:aQ O (aY ad ar9):=aV ⟨Vk,apC,⟨⟩⟩
abbrev Q_:Shape:=⟨[a_ 5 3000320,ap 6,a_ 7 3000448,ap 8],[a8 3000320 .i64 5 0,a8 3000448 .i64 7 0],28⟩
abbrev QQ:List aO:=[(.norm,⟨[a_ 5 3000320,a_ 7 3000448,ap 24],[a8 3000320 .i64 5 0,a8 3000448 .i64 7 0],28⟩)]
noncomputable def Hj(y:Q_.F):Option (aA QQ):=
 bif(!(!y.1.2.1)) then
 some (((),(),(!y.1.2.2.2.1),()),y.2.1,y.2.2.1,())
else
 some (((),(),true,()),y.2.1,y.2.2.1,())
theorem akm:aT O (an (codeOf Tryz.f227) 1 60) (aU Q_ QQ Hj):=b8 Zp (by kernel_rfl) af fun y=>by kernel_rfl
abbrev i227:Shape:=⟨[ak 0,ak 1],[],28⟩
abbrev VU:Shape:=⟨[ag 4],[],28⟩
noncomputable def f227(a:i227.F):Option VU.F:=
(f151 ((a.1.1,()),())).bind fun b=>
(f151 ((a.1.2.1,()),())).bind fun c=>
(Hj (((),b.2.2.2.1.1,(),c.2.2.2.1.1,()),b.2.1,c.2.1,())).bind fun d=>
 bif d.1.2.2.1 then
 some (((0:Int),()),())
else
(f263 ((d.2.1,d.2.2.1,()),())).bind fun e=>
 some ((e.1.1,()),())
noncomputable def Yh:aB:=aG ad Tryz.f227 i227 VU [] f227
theorem z227:ay O 227 Yh:=aJ Zp Tryz.func227 (by kernel_rfl) (a6 akm af) (fun y=>by kernel_rfl) fun a=>by kernel_rfl
noncomputable abbrev asv:a7:=[(100,BY),(102,vw),(227,Yh)]
theorem Zv:aQ O (aY ad asv):=aV ⟨IT,Bv,z227,⟨⟩⟩
abbrev Rc:Shape:=⟨[ak 1,ak 2,au 3 3 0],[ar 3 [ah,aX,ah]],44⟩
abbrev QU:List aO:=[(.norm,⟨[ak 2,au 3 3 0,ap 20],[ar 3 [ah,aX,ah]],44⟩)]
noncomputable def Hm(y:Rc.F):Option (aA QU):=
(f102 (((y.2.1.1,y.2.1.2.1,y.2.1.2.2.1,()),()),())).bind fun a=>
 bif(!(!a.1.1)) then
(f100 ((y.1.2.1,()),())).bind fun b=>
 bif(!(!b.1.1)) then
 some ((y.1.2.1,(),(!(y.1.1==y.2.1.1)),()),(y.2.1.1,y.2.1.2.1,y.2.1.2.2.1,()),())
else
 some ((y.1.2.1,(),true,()),(y.2.1.1,y.2.1.2.1,y.2.1.2.2.1,()),())
else
 some ((y.1.2.1,(),true,()),(y.2.1.1,y.2.1.2.1,y.2.1.2.2.1,()),())
theorem akx:aT O (an (codeOf Tryz.f183) 1 12) (aU Rc QU Hm):=b8 Zv (by kernel_rfl) af fun y=>by kernel_rfl
abbrev i183:Shape:=⟨[b5 0 [ah,aX,ah],ak 1,ak 2],[],44⟩
abbrev Wp:Shape:=⟨[ap 6],[],44⟩
noncomputable def f183(a:i183.F):Option Wp.F:=
(Hm ((a.1.2.1,a.1.2.2.1,(),()),(a.1.1.1,a.1.1.2.1,a.1.1.2.2.1,()),())).bind fun b=>
 bif b.1.2.2.1 then
 some ((false,()),())
else
 bif(b.2.1.2.1==(1:Int)) then
(f227 ((b.1.1,b.2.1.2.2.1,()),())).bind fun c=>
 some (((c.1.1==(0:Int)),()),())
else
 bif(b.2.1.2.1==(2:Int)) then
(f227 ((b.1.1,b.2.1.2.2.1,()),())).bind fun d=>
 some (((decide (d.1.1>=(0:Int))),()),())
else
 bif(b.2.1.2.1==(3:Int)) then
(f227 ((b.1.1,b.2.1.2.2.1,()),())).bind fun e=>
 some (((decide (e.1.1<(0:Int))),()),())
else
 some ((true,()),())
noncomputable def YE:aB:=aG ad Tryz.f183 i183 Wp [] f183
theorem z183:ay O 183 YE:=aJ Zv Tryz.func183 (by kernel_rfl) (a6 akx af) (fun y=>by kernel_rfl) fun a=>by kernel_rfl
def oS:List Int->List Int->Int
 |[],[]=>0
 |[],_::_=>-1
 |_::_,[]=>1
 |x::a,y::b=>bif decide (x<y) then-1 else bif decide (x>y) then 1 else oS a b
theorem drop_cons{aI:Type}{xs:List aI}{k:Nat}{x:aI}{r:List aI}(h:xs.drop k=x::r):xs[k]? =some x/\xs.drop (k+1)=r/\k<xs.length:=by
 have h1:xs[k]? =some x:=by
  have:=congrArg (fun l=>l[0]?) h
  simpa using this
 refine⟨h1,?_,cD h1⟩;have:=congrArg List.tail h;simpa using this
theorem drop_nil{aI:Type}{xs:List aI}{k:Nat}(h:xs.drop k=[]):xs.length<=k:=by
 have:=congrArg List.length h;simp at this;omega
theorem afB(a)(h1:b9 a.1.1.length)(h2:b9 a.1.2.1.length)(ja:∀x,x∈a.1.1->0<=x)(jC:∀x,x∈a.1.2.1->0<=x):f238 a=some ((oS a.1.1 a.1.2.1,()),()):=by
 obtain⟨⟨xs,bg,u⟩,bT⟩:=a;have h1:xs.length<=2097152:=h1;have h2:bg.length<=2097152:=h2;have ja:∀x:Int,x∈xs->0<=x:=ja;have jC:∀x:Int,x∈bg->0<=x:=jC;have key:∀(n:Nat) (us ws:List Int) (k:Nat),us.length+ws.length=n->xs.drop k=us->bg.drop k=ws->k<=2097152->
   (np ((xs,(bg,((k:Int),()))),())).bind (fun aqW=>(match aqW with|.inl aqV=>some ((aqV.1.1,()),())|.inr azW=>some (((0:Int),()),()):Option I4.F))=some ((oS us ws,()),()):=by
  intro n;induction n using Nat.strongRecOn with
  |_ n ih=>
   intro us ws k hn ha hb hk;have hw:ax k:=by unfold ax;omega
   match us,ws with
   |[],[]=>
    have c1:=drop_nil ha;have c2:=drop_nil hb;have d1:decide ((k:Int)<(xs.length:Int))=false:=by simp only[decide_eq_false_iff_not];omega
    have d2:decide ((k:Int)<(bg.length:Int))=false:=by simp only[decide_eq_false_iff_not];omega
    have:np ((xs,(bg,((k:Int),()))),())=some (.inr ((),())):=by
     refine de ?_
     simp only[rJ,rz,d1,d2,Bool.not_false,cond_true,cond_false,Option.bind_some]
    rw[this];rfl
   |[],y::ws=>
    have c1:=drop_nil ha;obtain⟨c2,c3,dk⟩:=drop_cons hb;have hy:=jC y (List.mem_of_getElem? c2);have d1:decide ((k:Int)<(xs.length:Int))=false:=by simp only[decide_eq_false_iff_not];omega
    have d3:decide ((-1:Int)<y)=true:=by simp only[decide_eq_true_eq];omega
    have:np ((xs,(bg,((k:Int),()))),())=some (.inl ((((-1):Int),()),())):=by
     refine de ?_
     simp only[rJ,rz,tT,tS,d1,cq dk,bY,c2,Bool.not_false,cond_true,cond_false,Option.bind_some,d3]
    rw[this];rfl
   |x::us,[]=>
    have c1:=drop_nil hb;obtain⟨c2,c3,dk⟩:=drop_cons ha;have hx:=ja x (List.mem_of_getElem? c2);have d1:decide ((k:Int)<(bg.length:Int))=false:=by simp only[decide_eq_false_iff_not];omega
    have d3:decide (x<(-1:Int))=false:=by simp only[decide_eq_false_iff_not];omega
    have d4:decide (x>(-1:Int))=true:=by simp only[decide_eq_true_eq];omega
    have:np ((xs,(bg,((k:Int),()))),())=some (.inl (((1:Int),()),())):=by
     refine de ?_
     simp only[rJ,rz,tT,tS,d1,cq dk,bY,c2,Bool.not_true,cond_true,cond_false,Option.bind_some,d3,d4]
    rw[this];rfl
   |x::us,y::ws=>
    obtain⟨c2,c3,dk⟩:=drop_cons ha;obtain⟨e2,bv,dq⟩:=drop_cons hb;have step:rJ ((xs,(bg,((k:Int),()))),())=some (bif decide (x<y) then .inr (.inl ((((-1):Int),()),())) else bif decide (x>y) then .inr (.inl (((1:Int),()),())) else .inl ((xs,(bg,(((k+1:Nat):Int),()))),())):=by
     simp only[rJ,rz,tT,tS,cq dk,cq dq,bY,c2,e2,Bool.not_true,cond_true,cond_false,Option.bind_some,b4 hw];cases decide (x<y)<;>cases decide (x>y)<;>rfl
    rw[oS];cases hlt:decide (x<y) with
    |true=>rw[hlt,cond_true] at step;rw[show np ((xs,(bg,((k:Int),()))),())=_ from de step];rfl
    |false=>
     rw[hlt,cond_false] at step;cases qH:decide (x>y) with
     |true=>rw[qH,cond_true] at step;rw[show np ((xs,(bg,((k:Int),()))),())=_ from de step];rfl
     |false=>
      rw[qH,cond_false] at step;rw[show np ((xs,(bg,((k:Int),()))),())=_ from fc step]
      exact ih (us.length+ws.length) (by simp only[List.length_cons] at hn;omega) us ws (k+1) rfl c3 bv (by omega)
 have:=key _ xs bg 0 rfl rfl rfl (Nat.zero_le _);simp only[f238];exact this
theorem ahH(a):f286 a=some ((bif decide (a.1.1<a.1.2.1) then-1 else bif decide (a.1.1>a.1.2.1) then 1 else 0,()),()):=by
 obtain⟨⟨x,y,u⟩,bT⟩:=a;have hx:(x !=x)=false:=by simp
 have hy:(y !=y)=false:=by simp
 simp only[f286,f288,Option.bind_some,hx,hy,cond_false];cases decide (x<y)<;>cases decide (x>y)<;>rfl
theorem afQ(a)(h1:b9 a.1.1.length)(h2:b9 a.1.2.1.length):f281 a=some ((oS a.1.1 a.1.2.1,()),()):=by
 obtain⟨⟨xs,bg,u⟩,bT⟩:=a;have h1:xs.length<=2097152:=h1;have h2:bg.length<=2097152:=h2;have key:∀(us ws:List Int) (k:Nat),xs.drop k=us->bg.drop k=ws->k<=xs.length->
   (ou ((xs,(bg,(xs,((xs.length:Int),((k:Int),()))))),())).bind (fun aoy=>(match aoy with
    |.inl aox=>some ((aox.1.1,()),())
    |.inr Uu=>bif(decide ((Uu.1.1.length:Int)<(Uu.1.2.1.length:Int))) then some ((((-1):Int),()),()) else some (((0:Int),()),()):Option I3.F))=some ((oS us ws,()),()):=by
  intro us;induction us with
  |nil=>
   intro ws k ha hb hk;have c1:=drop_nil ha;have d1:decide ((k:Int)<(xs.length:Int))=false:=by simp only[decide_eq_false_iff_not];omega
   have:ou ((xs,(bg,(xs,((xs.length:Int),((k:Int),()))))),())=some (.inr ((xs,(bg,())),())):=by
    refine de ?_
    simp only[un,d1,cond_false]
   rw[this];simp only[Option.bind_some];cases ws with
   |nil=>
    have c2:=drop_nil hb;have:decide ((xs.length:Int)<(bg.length:Int))=false:=by simp only[decide_eq_false_iff_not];omega
    rw[this];rfl
   |cons y ws=>
    obtain⟨_,_,dk⟩:=drop_cons hb;rw[cq (show xs.length<bg.length by omega)];rfl
  |cons x us ih=>
   intro ws k ha hb hk;obtain⟨c2,c3,dk⟩:=drop_cons ha;have hw:ax k:=by unfold ax;omega
   cases ws with
   |nil=>
    have c1:=drop_nil hb;have d1:decide ((k:Int)>=(bg.length:Int))=true:=by simp only[decide_eq_true_eq];omega
    have:ou ((xs,(bg,(xs,((xs.length:Int),((k:Int),()))))),())=some (.inl (((1:Int),()),())):=by
     refine de ?_
     simp only[un,cq dk,cond_true,bY,c2,Option.bind_some,d1]
    rw[this];rfl
   |cons y ws=>
    obtain⟨e2,bv,dq⟩:=drop_cons hb;have d1:decide ((k:Int)>=(bg.length:Int))=false:=by simp only[decide_eq_false_iff_not];omega
    have step:un ((xs,(bg,(xs,((xs.length:Int),((k:Int),()))))),())=some (bif decide (x<y) then .inr (.inl ((((-1):Int),()),())) else bif decide (x>y) then .inr (.inl (((1:Int),()),())) else .inl ((xs,(bg,(xs,((xs.length:Int),(((k+1:Nat):Int),()))))),())):=by
     simp only[un,cq dk,bY,c2,e2,d1,cond_true,cond_false,Option.bind_some,ahH,b4 hw];cases decide (x<y)<;>cases decide (x>y)<;>rfl
    rw[oS];cases hlt:decide (x<y) with
    |true=>rw[hlt,cond_true] at step;rw[show ou ((xs,(bg,(xs,((xs.length:Int),((k:Int),()))))),())=_ from de step];rfl
    |false=>
     rw[hlt,cond_false] at step;cases qH:decide (x>y) with
     |true=>rw[qH,cond_true] at step;rw[show ou ((xs,(bg,(xs,((xs.length:Int),((k:Int),()))))),())=_ from de step];rfl
     |false=>
      rw[qH,cond_false] at step;rw[show ou ((xs,(bg,(xs,((xs.length:Int),((k:Int),()))))),())=_ from fc step]
      exact ih ws (k+1) c3 bv (by omega)
 have:=key xs bg 0 rfl rfl (Nat.zero_le _);simp only[f281];exact this
def qf(a b:J):Int:=bif dY a&&dY b then oS (gY a) (gY b) else 0
theorem ME{s:J}(h:dY s=true):∀x,x∈gY s->0<=x:=by
 intro x hx;unfold gY at hx;obtain⟨p,hp,rfl⟩:=List.mem_map.1 hx;unfold dY at h;simp only[Bool.and_eq_true] at h;have:=List.all_eq_true.1 h.1 p hp;unfold e_ at this;simp only[Bool.and_eq_true] at this;exact Nt p 0 this.1.1.1.1 (Int.le_refl _)
theorem xf(s:J):(gY s).length<=s.length+1:=by
 unfold gY hL;rw[List.length_map];exact nf 46 s
theorem acm(a)(h1:a.1.1.length<=2097151)(h2:a.1.2.1.length<=2097151):f204 a=some ((qf a.1.1 a.1.2.1,()),()):=by
 obtain⟨⟨x,y,u⟩,bT⟩:=a;have h1:x.length<=2097151:=h1;have h2:y.length<=2097151:=h2;obtain⟨o1,e1,q1⟩:=DX ((x,()),()) (show x.length<=2097152 by omega)
 obtain⟨o2,e2,q2⟩:=DX ((y,()),()) (show y.length<=2097152 by omega)
 simp only[f204,e1,e2,Option.bind_some,Hk,qf,Bool.not_not];cases hx:dY x with
 |false=>rfl
 |true=>
  cases hy:dY y with
  |false=>rfl
  |true=>
   have avB:=xf x;have Cr:=xf y;have bB:o1=gY x:=q1 hx;have w2:o2=gY y:=q2 hy;subst bB w2;have bv:=afB ((gY x,(gY y,())),()) (show(gY x).length<=2097152 by omega) (show(gY y).length<=2097152 by omega) (ME hx) (ME hy)
   simp only[cond_true,Bool.not_true,Option.bind_some,cond_false,bv,Bool.and_self]
theorem ach(a)(h1:a.1.1.length<=2097151)(h2:a.1.2.1.length<=2097151):f227 a=some ((qf a.1.1 a.1.2.1,()),()):=by
 obtain⟨⟨x,y,u⟩,bT⟩:=a;have h1:x.length<=2097151:=h1;have h2:y.length<=2097151:=h2;have e1:=Dj ((x,()),()) (show x.length<=2097152 by omega)
 have e2:=Dj ((y,()),()) (show y.length<=2097152 by omega)
 simp only[f227,e1,e2,Option.bind_some,Hj,qf,Bool.not_not];cases hx:dY x with
 |false=>rfl
 |true=>
  cases hy:dY y with
  |false=>rfl
  |true=>
   have avB:=xf x;have Cr:=xf y;have bv:=afQ ((gY x,(gY y,())),()) (show(gY x).length<=2097152 by omega) (show(gY y).length<=2097152 by omega)
   simp only[cond_true,Bool.not_true,Option.bind_some,cond_false,f263,bv,Bool.and_self]
def sy(n:bQ)(v:J):Bool:=bif n.kind==1 then qf v n.bf==0 else bif n.kind==2 then decide (qf v n.bf>=0) else bif n.kind==3 then decide (qf v n.bf<0) else true
theorem ahx(a)(h1:a.1.1.2.2.1.length<=2097151)(h2:a.1.2.2.1.length<=2097151)(hn:a.1.2.1=a.1.1.1):f161 a=some ((sy ⟨a.1.1.1,a.1.1.2.1,a.1.1.2.2.1⟩ a.1.2.2.1,()),()):=by
 obtain⟨⟨⟨n,k,v,u⟩,m,w,bT⟩,mL⟩:=a;obtain rfl:m=n:=hn;have e1:=acm ((w,(v,())),()) h2 h1;have gT:(m==m)=true:=by simp
 simp only[f161,gT,e1,Bool.not_true,cond_false,Option.bind_some,sy];cases (k==1)<;>cases (k==2)<;>cases (k==3)<;>rfl
def k3(n:bQ)(name v:J):Bool:=dR n&&dY v&&(name==n.name)&&sy n v
theorem aez(a)(h0:b9 a.1.1.1.length)(h1:a.1.1.2.2.1.length<=2097151)(h2:a.1.2.2.1.length<=2097151):f183 a=some ((k3 ⟨a.1.1.1,a.1.1.2.1,a.1.1.2.2.1⟩ a.1.2.1 a.1.2.2.1,()),()):=by
 obtain⟨⟨⟨n,k,v,u⟩,m,w,bT⟩,mL⟩:=a;have h1:v.length<=2097151:=h1;have h2:w.length<=2097151:=h2;have e1:=ach ((w,(v,())),()) h2 h1;have e2:=xi (((n,(k,(v,()))),()),()) h0 (show v.length<=2097152 by omega)
 have bv:=Dm ((w,()),()) (show w.length<=2097152 by omega)
 simp only[f183,Hm,e1,e2,bv,Bool.not_not,Option.bind_some,k3,sy];cases dR ⟨n,k,v⟩ with
 |false=>rfl
 |true=>
  cases dY w with
  |false=>rfl
  |true=>
   cases (m==n) with
   |false=>rfl
   |true=>
    simp only[cond_true,Bool.not_true,Option.bind_some,cond_false,Bool.true_and];cases (k==1)<;>cases (k==2)<;>cases (k==3)<;>simp only[cond_true,cond_false,Option.bind_some,e1]
abbrev yV:Shape:=⟨[aK 0 .pack,ak 1,ag 5],[],20⟩
abbrev Gf:List aO:=[(.ret,⟨[ag 4],[],20⟩),(.exit 0,⟨[],[],20⟩)]
noncomputable def zA(y:yV.F):bD yV Gf:=
 bif(decide (y.1.2.2.1<(y.1.1.length:Int))) then
(aN y.1.1 y.1.2.2.1).bind fun a=>
 bif(a.name==y.1.2.1) then
 some (.inr (.inl ((y.1.2.2.1,()),())))
else
 some (.inl ((y.1.1,y.1.2.1,(IntKind.i64.wrap (y.1.2.2.1+(1:Int))),()),()))
else
 some (.inr (.inr ((),())))
noncomputable def rG:yV.F->Option (aA Gf):=bo zA
theorem akI:aT O (an (codeOf Tryz.f160) 1 26) (aU yV Gf rG):=bE g0 (by kernel_rfl) af fun y=>by kernel_rfl
abbrev i160:Shape:=⟨[aK 0 .pack,ak 1],[],20⟩
abbrev WG:Shape:=⟨[ag 4],[],20⟩
noncomputable def f160(a:i160.F):Option WG.F:=
(rG ((a.1.1,a.1.2.1,(0:Int),()),())).bind fun b=>
(match b with
|.inl c=>
 some ((c.1.1,()),())
|.inr d=>
 some ((((-1):Int),()),()))
noncomputable def JS:aB:=aG ad Tryz.f160 i160 WG [] f160
theorem z160:ay O 160 JS:=aJ g0 Tryz.func160 (by kernel_rfl) (a6 akI af) (fun y=>by kernel_rfl) fun a=>by kernel_rfl
noncomputable abbrev ath:a7:=[(160,JS),(161,YT)]
theorem B5:aQ O (aY ad ath):=aV ⟨z160,aqd,⟨⟩⟩
abbrev M8:Shape:=⟨[aK 0 .pack,ag 3,ag 4,au 5 5 0,ag 6],[ar 5 [ah,aX,ah]],49⟩
abbrev M1:List aO:=[(.norm,⟨[aK 0 .pack,ag 3,ag 4,ag 35,ap 36,ap 37,ap 48],[],49⟩)]
noncomputable def w0(y:M8.F):Option (aA M1):=
 bif(decide (y.1.2.2.2.2.1<(0:Int))) then
 some ((y.1.1,y.1.2.1,y.1.2.2.1,y.1.2.2.2.2.1,(decide (y.1.2.2.2.2.1<(0:Int))),true,true,()),())
else
(aN y.1.1 y.1.2.2.2.2.1).bind fun a=>
(f161 (((y.2.1.1,y.2.1.2.1,y.2.1.2.2.1,()),y.2.1.1,a.bf,()),())).bind fun b=>
 some ((y.1.1,y.1.2.1,y.1.2.2.1,y.1.2.2.2.2.1,(decide (y.1.2.2.2.2.1<(0:Int))),false,(!b.1.1),()),())
theorem adU:aT O (an (cN (an (cN (an (codeOf Tryz.f110) 1 26)) 52 1682)) 3364 215334) (aU M8 M1 w0):=b8 B5 (by kernel_rfl) af fun y=>by kernel_rfl
abbrev xx:Shape:=⟨[aK 0 .pack,ag 3,ag 4],[],49⟩
abbrev D9:List aO:=[(.ret,⟨[ap 2],[],49⟩),(.exit 2,⟨[aK 0 .pack,ag 3],[],49⟩)]
noncomputable def xK(y:xx.F):bD xx D9:=
(aN y.1.1 y.1.2.1).bind fun a=>
 bif(decide (y.1.2.2.1<(a.bj.length:Int))) then
(aN y.1.1 y.1.2.1).bind fun b=>
(aN b.bj y.1.2.2.1).bind fun c=>
(f160 ((y.1.1,c.name,()),())).bind fun d=>
(w0 ((y.1.1,y.1.2.1,y.1.2.2.1,(),d.1.1,()),(c.name,c.kind,c.bf,()),())).bind fun e=>
 bif e.1.2.2.2.2.2.2.1 then
 some (.inr (.inl ((false,()),())))
else
 some (.inl ((e.1.1,e.1.2.1,(IntKind.i64.wrap (e.1.2.2.1+(1:Int))),()),()))
else
 some (.inr (.inr ((y.1.1,y.1.2.1,()),())))
noncomputable def Er:xx.F->Option (aA D9):=bo xK
theorem agD:aT O (an (cN (an (codeOf Tryz.f110) 1 26)) 52 1682) (aU xx D9 Er):=bE B5 (by kernel_rfl) (a6 adU af) fun y=>by kernel_rfl
abbrev za:Shape:=⟨[aK 0 .pack,ag 3],[],49⟩
abbrev Gv:List aO:=[(.ret,⟨[ap 2],[],49⟩),(.exit 0,⟨[],[],49⟩)]
noncomputable def zI(y:za.F):bD za Gv:=
 bif(decide (y.1.2.1<(y.1.1.length:Int))) then
(Er ((y.1.1,y.1.2.1,(0:Int),()),())).bind fun a=>
(match a with
|.inl b=>
 some (.inr (.inl ((b.1.1,()),())))
|.inr c=>
 some (.inl ((c.1.1,(IntKind.i64.wrap (c.1.2.1+(1:Int))),()),())))
else
 some (.inr (.inr ((),())))
noncomputable def G6:za.F->Option (aA Gv):=bo zI
theorem ak1:aT O (an (codeOf Tryz.f110) 1 26) (aU za Gv G6):=bE B5 (by kernel_rfl) (a6 agD af) fun y=>by kernel_rfl
abbrev i110:Shape:=⟨[aK 0 .pack],[],49⟩
abbrev Xg:Shape:=⟨[ap 2],[],49⟩
noncomputable def f110(a:i110.F):Option Xg.F:=
(G6 ((a.1.1,(0:Int),()),())).bind fun b=>
(match b with
|.inl c=>
 some ((c.1.1,()),())
|.inr d=>
 some ((true,()),()))
noncomputable def Zj:aB:=aG ad Tryz.f110 i110 Xg [] f110
theorem aqt:ay O 110 Zj:=aJ B5 Tryz.func110 (by kernel_rfl) (a6 ak1 af) (fun y=>by kernel_rfl) fun a=>by kernel_rfl
noncomputable abbrev anK:a7:=[(54,U8),(56,aaU)]
theorem Ug:aQ O (aY ad anK):=aV ⟨aod,auh,⟨⟩⟩
abbrev OM:Shape:=⟨[(0,.am (.er [.sl .pack] 0))],[],10⟩
abbrev Ot:List aO:=[(.norm,⟨[ap 9],[],10⟩)]
noncomputable def EC(y:OM.F):Option (aA Ot):=
(Bj ((y.1.1.1,(),()),())).bind fun a=>
 bif(!(!a.1.1)) then
(f56 ((y.1.1.1,()),())).bind fun b=>
 some (((!b.1.1),()),())
else
 some ((true,()),())
theorem agy:aT O (an (codeOf Tryz.f128) 1 12) (aU OM Ot EC):=b8 Ug (by kernel_rfl) af fun y=>by kernel_rfl
abbrev TF:Shape:=⟨[(0,.am (.er [.sl .pack] 0))],[],10⟩
abbrev S':Shape:=⟨[ag 1],[],10⟩
noncomputable def sd(a:TF.F):Option S'.F:=
(EC (((a.1.1.1,()),()),())).bind fun b=>
 bif b.1.1 then
 some (((1:Int),()),())
else
 some (((0:Int),()),())
noncomputable def T':aB:=aG ad Tryz.f128 TF S' [] sd
theorem al4:ay O 128 T':=aJ Ug Tryz.func128 (by kernel_rfl) (a6 agy af) (fun y=>by kernel_rfl) fun a=>by kernel_rfl
abbrev TE:Shape:=⟨[(0,.am (.er [.sl .pack] 0))],[],5⟩
abbrev S_:Shape:=⟨[ag 1],[],5⟩
noncomputable def sb(a:TE.F):Option S_.F:=
 bif(decide ((a.1.1.1.length:Int)>(5:Int))) then
 some (((6:Int),()),())
else
 some (((0:Int),()),())
noncomputable def T_:aB:=aG ad Tryz.f129 TE S_ [] sb
theorem al3:ay O 129 T_:=aJ g0 Tryz.func129 (by kernel_rfl) af (fun y=>by kernel_rfl) fun a=>by kernel_rfl
noncomputable abbrev anB:a7:=[(183,YE)]
theorem anV:aQ O (aY ad anB):=aV ⟨z183,⟨⟩⟩
abbrev Tv:Shape:=⟨[b5 0 [ah,ah,bl .need,bl .entry],(1,.am (.er [.str,.int .i64,.str] 0))],[],10⟩
abbrev S1:Shape:=⟨[ap 3],[],10⟩
noncomputable def Ii(a:Tv.F):Option S1.F:=
(f183 (((a.1.2.1.1,a.1.2.1.2.1,a.1.2.1.2.2.1,()),a.1.1.1,a.1.1.2.1,()),())).bind fun b=>
 some ((b.1.1,()),())
noncomputable def T5:aB:=aG ad Tryz.f182 Tv S1 [] Ii
theorem alY:ay O 182 T5:=aJ anV Tryz.func182 (by kernel_rfl) af (fun y=>by kernel_rfl) fun a=>by kernel_rfl
noncomputable abbrev anw:a7:=[(182,T5)]
theorem Uf:aQ O (aY ad anw):=aV ⟨alY,⟨⟩⟩
abbrev xq:Shape:=⟨[aK 0 .pack,(1,.am (.fn 182 [[.str,.int .i64,.str]])),ag 7,ag 8],[],19⟩
abbrev D3:List aO:=[(.ret,⟨[ag 4],[],19⟩),(.exit 0,⟨[],[],19⟩)]
noncomputable def xE(y:xq.F):bD xq D3:=
 bif(decide (y.1.2.2.2.1<y.1.2.2.1)) then
(aN y.1.1 y.1.2.2.2.1).bind fun a=>
(Ii (((a.name,a.bf,a.bj,a.bH,()),(y.1.2.1.1.1,y.1.2.1.1.2.1,y.1.2.1.1.2.2.1,()),()),())).bind fun b=>
 bif b.1.1 then
 some (.inr (.inl ((y.1.2.2.2.1,()),())))
else
 some (.inl ((y.1.1,((y.1.2.1.1.1,y.1.2.1.1.2.1,y.1.2.1.1.2.2.1,()),()),y.1.2.2.1,(IntKind.i64.wrap (y.1.2.2.2.1+(1:Int))),()),()))
else
 some (.inr (.inr ((),())))
noncomputable def rk:xq.F->Option (aA D3):=bo xE
theorem agn:aT O (an (codeOf Tryz.f228) 1 26) (aU xq D3 rk):=bE Uf (by kernel_rfl) af fun y=>by kernel_rfl
abbrev Tr:Shape:=⟨[aK 0 .pack,(1,.am (.fn 182 [[.str,.int .i64,.str]]))],[],19⟩
abbrev HV:Shape:=⟨[ag 4],[],19⟩
noncomputable def AP(a:Tr.F):Option HV.F:=
(rk ((a.1.1,((a.1.2.1.1.1,a.1.2.1.1.2.1,a.1.2.1.1.2.2.1,()),()),(a.1.1.length:Int),(0:Int),()),())).bind fun b=>
(match b with
|.inl c=>
 some ((c.1.1,()),())
|.inr d=>
 some ((((-1):Int),()),()))
noncomputable def T2:aB:=aG ad Tryz.f228 Tr HV [] AP
theorem alV:ay O 228 T2:=aJ Uf Tryz.func228 (by kernel_rfl) (a6 agn af) (fun y=>by kernel_rfl) fun a=>by kernel_rfl
noncomputable abbrev anA:a7:=[(228,T2)]
theorem anU:aQ O (aY ad anA):=aV ⟨alV,⟨⟩⟩
abbrev Tu:Shape:=⟨[aK 0 .pack,(1,.am (.fn 182 [[.str,.int .i64,.str]]))],[],9⟩
abbrev S0:Shape:=⟨[ap 4],[],9⟩
noncomputable def AQ(a:Tu.F):Option S0.F:=
(AP ((a.1.1,((a.1.2.1.1.1,a.1.2.1.1.2.1,a.1.2.1.1.2.2.1,()),()),()),())).bind fun b=>
 some (((decide (b.1.1>=(0:Int))),()),())
noncomputable def T4:aB:=aG ad Tryz.f184 Tu S0 [] AQ
theorem alX:ay O 184 T4:=aJ anU Tryz.func184 (by kernel_rfl) af (fun y=>by kernel_rfl) fun a=>by kernel_rfl
noncomputable abbrev as4:a7:=[(184,T4)]
theorem J':aQ O (aY ad as4):=aV ⟨alX,⟨⟩⟩
abbrev xu:Shape:=⟨[aK 0 .pack,aK 8 .pack,ag 9,ag 10,aK 15 .need,ag 16,ag 17],[],28⟩
abbrev D6:List aO:=[(.ret,⟨[ap 2],[],28⟩),(.exit 2,⟨[aK 0 .pack,aK 8 .pack,ag 9,ag 10],[],28⟩)]
noncomputable def xI(y:xu.F):bD xu D6:=
 bif(decide (y.1.2.2.2.2.2.2.1<y.1.2.2.2.2.2.1)) then
(aN y.1.2.2.2.2.1 y.1.2.2.2.2.2.2.1).bind fun a=>
(AQ ((y.1.1,((a.name,a.kind,a.bf,()),()),()),())).bind fun b=>
 bif(!b.1.1) then
 some (.inr (.inl ((false,()),())))
else
 some (.inl ((y.1.1,y.1.2.1,y.1.2.2.1,y.1.2.2.2.1,y.1.2.2.2.2.1,y.1.2.2.2.2.2.1,(IntKind.i64.wrap (y.1.2.2.2.2.2.2.1+(1:Int))),()),()))
else
 some (.inr (.inr ((y.1.1,y.1.2.1,y.1.2.2.1,y.1.2.2.2.1,()),())))
noncomputable def En:xu.F->Option (aA D6):=bo xI
theorem agx:aT O (an (cN (an (codeOf Tryz.f131) 1 26)) 52 6758) (aU xu D6 En):=bE J' (by kernel_rfl) af fun y=>by kernel_rfl
abbrev y6:Shape:=⟨[aK 0 .pack,aK 8 .pack,ag 9,ag 10],[],28⟩
abbrev Gq:List aO:=[(.ret,⟨[ap 2],[],28⟩),(.exit 0,⟨[],[],28⟩)]
noncomputable def zG(y:y6.F):bD y6 Gq:=
 bif(decide (y.1.2.2.2.1<y.1.2.2.1)) then
(aN y.1.2.1 y.1.2.2.2.1).bind fun a=>
(En ((y.1.1,y.1.2.1,y.1.2.2.1,y.1.2.2.2.1,a.bj,(a.bj.length:Int),(0:Int),()),())).bind fun b=>
(match b with
|.inl c=>
 some (.inr (.inl ((c.1.1,()),())))
|.inr d=>
 some (.inl ((d.1.1,d.1.2.1,d.1.2.2.1,(IntKind.i64.wrap (d.1.2.2.2.1+(1:Int))),()),())))
else
 some (.inr (.inr ((),())))
noncomputable def G4:y6.F->Option (aA Gq):=bo zG
theorem akV:aT O (an (codeOf Tryz.f131) 1 26) (aU y6 Gq G4):=bE J' (by kernel_rfl) (a6 agx af) fun y=>by kernel_rfl
abbrev i131:Shape:=⟨[aK 0 .pack],[],28⟩
abbrev W4:Shape:=⟨[ap 2],[],28⟩
noncomputable def f131(a:i131.F):Option W4.F:=
(G4 ((a.1.1,a.1.1,(a.1.1.length:Int),(0:Int),()),())).bind fun b=>
(match b with
|.inl c=>
 some ((c.1.1,()),())
|.inr d=>
 some ((true,()),()))
noncomputable def Y_:aB:=aG ad Tryz.f131 i131 W4 [] f131
theorem z131:ay O 131 Y_:=aJ J' Tryz.func131 (by kernel_rfl) (a6 akV af) (fun y=>by kernel_rfl) fun a=>by kernel_rfl
noncomputable abbrev anJ:a7:=[(131,Y_)]
theorem an2:aQ O (aY ad anJ):=aV ⟨z131,⟨⟩⟩
abbrev TD:Shape:=⟨[(0,.am (.er [.sl .pack] 0))],[],5⟩
abbrev S9:Shape:=⟨[ag 1],[],5⟩
noncomputable def sa(a:TD.F):Option S9.F:=
(f131 ((a.1.1.1,()),())).bind fun b=>
 bif(!b.1.1) then
 some (((4:Int),()),())
else
 some (((0:Int),()),())
noncomputable def T9:aB:=aG ad Tryz.f130 TD S9 [] sa
theorem al2:ay O 130 T9:=aJ an2 Tryz.func130 (by kernel_rfl) af (fun y=>by kernel_rfl) fun a=>by kernel_rfl
noncomputable abbrev anI:a7:=[(133,Y9)]
theorem an1:aQ O (aY ad anI):=aV ⟨aqn,⟨⟩⟩
abbrev TC:Shape:=⟨[(0,.am (.er [.sl .pack] 0))],[],11⟩
abbrev S8:Shape:=⟨[ag 1],[],11⟩
noncomputable def r'(a:TC.F):Option S8.F:=
(f133 ((a.1.1.1,()),())).bind fun b=>
 bif(!b.1.2.1) then
 some (((5:Int),()),())
else
 some (((0:Int),()),())
noncomputable def T8:aB:=aG ad Tryz.f132 TC S8 [] r'
theorem al1:ay O 132 T8:=aJ an1 Tryz.func132 (by kernel_rfl) af (fun y=>by kernel_rfl) fun a=>by kernel_rfl
noncomputable abbrev axD:a7:=[(50,CQ),(109,Zk),(110,Zj)]
theorem LG:aQ O (aY ad axD):=aV ⟨Kf,z109,aqt,⟨⟩⟩
abbrev Q6:Shape:=⟨[aK 0 .pack,ag 3],[],52⟩
abbrev QM:List aO:=[(.norm,⟨[aK 0 .pack,ag 3,aK 12 .pack,ag 13,(14,.am (.er [.str,.str,.sl .need,.sl .entry] 0)),b5 15 [ah,ah,bl .need,bl .entry],ap 16,ap 17,ap 18,ap 35],[],52⟩)]
noncomputable def zn(y:Q6.F):Option (aA QM):=
(aN y.1.1 y.1.2.1).bind fun a=>
(f50 (((a.name,a.bf,a.bj,a.bH,()),()),())).bind fun b=>
 bif(!b.1.1) then
 some ((y.1.1,y.1.2.1,y.1.1,y.1.2.1,(a.name,a.bf,a.bj,a.bH,()),(a.name,a.bf,a.bj,a.bH,()),b.1.1,(!b.1.1),true,true,()),())
else
 bif(decide (y.1.2.1>(0:Int))) then
(aN y.1.1 (IntKind.i64.wrap (y.1.2.1-(1:Int)))).bind fun c=>
(aN y.1.1 y.1.2.1).bind fun d=>
 some ((y.1.1,y.1.2.1,y.1.1,y.1.2.1,(a.name,a.bf,a.bj,a.bH,()),(a.name,a.bf,a.bj,a.bH,()),b.1.1,(!b.1.1),false,(!(Op.bytesLess c.name d.name)),()),())
else
 some ((y.1.1,y.1.2.1,y.1.1,y.1.2.1,(a.name,a.bf,a.bj,a.bH,()),(a.name,a.bf,a.bj,a.bH,()),b.1.1,(!b.1.1),false,false,()),())
theorem aj7:aT O (an (cN (an (codeOf Tryz.f60) 1 26)) 52 840) (aU Q6 QM zn):=b8 LG (by kernel_rfl) af fun y=>by kernel_rfl
abbrev Ag:Shape:=⟨[aK 0 .pack,ag 3],[],52⟩
abbrev HM:List aO:=[(.ret,⟨[ag 2],[],52⟩),(.exit 0,⟨[aK 0 .pack],[],52⟩)]
noncomputable def pW(y:Ag.F):bD Ag HM:=
 bif(decide (y.1.2.1<(y.1.1.length:Int))) then
(zn ((y.1.1,y.1.2.1,()),())).bind fun a=>
 bif a.1.2.2.2.2.2.2.2.2.2.1 then
 some (.inr (.inl (((1:Int),()),())))
else
 some (.inl ((a.1.1,(IntKind.i64.wrap (a.1.2.1+(1:Int))),()),()))
else
 some (.inr (.inr ((y.1.1,()),())))
noncomputable def Ar:Ag.F->Option (aA HM):=bo pW
theorem amF:aT O (an (codeOf Tryz.f60) 1 26) (aU Ag HM Ar):=bE LG (by kernel_rfl) (a6 aj7 af) fun y=>by kernel_rfl
abbrev i60:Shape:=⟨[aK 0 .pack],[],52⟩
abbrev _s:Shape:=⟨[ag 2],[],52⟩
noncomputable def f60(a:i60.F):Option _s.F:=
(Ar ((a.1.1,(0:Int),()),())).bind fun b=>
(match b with
|.inl c=>
 some ((c.1.1,()),())
|.inr d=>
(f109 ((d.1.1,()),())).bind fun e=>
 bif(decide ((d.1.1.length:Int)>(5:Int))) then
 some (((6:Int),()),())
else
(f110 ((d.1.1,()),())).bind fun f=>
 bif(!f.1.1) then
 some (((4:Int),()),())
else
 bif(!e.1.2.1) then
 some (((5:Int),()),())
else
 some (((0:Int),()),()))
noncomputable def Lv:aB:=aG ad Tryz.f60 i60 _s [] f60
theorem ZV:ay O 60 Lv:=aJ LG Tryz.func60 (by kernel_rfl) (a6 amF af) (fun y=>by kernel_rfl) fun a=>by kernel_rfl
noncomputable abbrev axT:a7:=[(60,Lv)]
theorem ayh:aQ O (aY ad axT):=aV ⟨ZV,⟨⟩⟩
abbrev i30:Shape:=⟨[b5 0 [bl .pack]],[],7⟩
abbrev _H:Shape:=⟨[ap 2],[],7⟩
noncomputable def f30(a:i30.F):Option _H.F:=
(f60 ((a.1.1.1,()),())).bind fun b=>
 some (((b.1.1==(0:Int)),()),())
noncomputable def wl:aB:=aG ad Tryz.f30 i30 _H [] f30
theorem Ca:ay O 30 wl:=aJ ayh Tryz.func30 (by kernel_rfl) af (fun y=>by kernel_rfl) fun a=>by kernel_rfl
noncomputable abbrev tu:a7:=[(128,T'),(129,T_),(130,T9),(132,T8)]
theorem abg:aQ O (aY ad tu):=aV ⟨al4,al3,al2,al1,⟨⟩⟩
abbrev Ur:Shape:=⟨[au 1 1 0],[ar 1 [bl .pack]],24⟩
abbrev oI:List aO:=[(.ret,⟨[ag 2],[],24⟩)]
noncomputable def p0(c:Int):aA oI:=((c,()),())
noncomputable def IG(y:Ur.F):Option (aA oI):=
 pX y.2.1.1 p0 [fun ps=>sd (((ps,()),()),()),fun ps=>sb (((ps,()),()),()),fun ps=>sa (((ps,()),()),()),fun ps=>r' (((ps,()),()),())]
theorem aoh:∀ps k i,exec (gB (aY ad tu) []) (an (cN (an (codeOf Tryz.f81) 1 58)) 116 3737) 3737 (((fW 24).st (gQ 24 ps k i)).set 5 (bZ (.clo 128 [(1,0)]))) (p1 24 oI)=((fun ps=>sd (((ps,()),()),())) ps).bind fun r=>bif(r.1.1 !=0) then some (.inr (p0 r.1.1)) else some (.inl (gQ 24 ps k i)):=fun ps k i=>by kernel_rfl
theorem aog:∀ps k i,exec (gB (aY ad tu) []) (an (cN (an (codeOf Tryz.f81) 1 58)) 116 3737) 3737 (((fW 24).st (gQ 24 ps k i)).set 5 (bZ (.clo 129 [(1,0)]))) (p1 24 oI)=((fun ps=>sb (((ps,()),()),())) ps).bind fun r=>bif(r.1.1 !=0) then some (.inr (p0 r.1.1)) else some (.inl (gQ 24 ps k i)):=fun ps k i=>by kernel_rfl
theorem aof:∀ps k i,exec (gB (aY ad tu) []) (an (cN (an (codeOf Tryz.f81) 1 58)) 116 3737) 3737 (((fW 24).st (gQ 24 ps k i)).set 5 (bZ (.clo 130 [(1,0)]))) (p1 24 oI)=((fun ps=>sa (((ps,()),()),())) ps).bind fun r=>bif(r.1.1 !=0) then some (.inr (p0 r.1.1)) else some (.inl (gQ 24 ps k i)):=fun ps k i=>by kernel_rfl
theorem aoe:∀ps k i,exec (gB (aY ad tu) []) (an (cN (an (codeOf Tryz.f81) 1 58)) 116 3737) 3737 (((fW 24).st (gQ 24 ps k i)).set 5 (bZ (.clo 132 [(1,0)]))) (p1 24 oI)=((fun ps=>r' (((ps,()),()),())) ps).bind fun r=>bif(r.1.1 !=0) then some (.inr (p0 r.1.1)) else some (.inl (gQ 24 ps k i)):=fun ps k i=>by kernel_rfl
theorem aoz:aT O (an (codeOf Tryz.f81) 1 3) (aU Ur oI IG):=
 aeh (C:=gB (aY ad tu) []) (os:=oI) (nt:=24) (T:=165) (e:=164) (m0:=((opsOf (an (codeOf Tryz.f81) 1 6)).getD 0 default)) (m1:=((opsOf (an (codeOf Tryz.f81) 1 6)).getD 1 default)) (m2:=((opsOf (an (codeOf Tryz.f81) 1 6)).getD 2 default)) (m3:=((opsOf (an (codeOf Tryz.f81) 1 6)).getD 3 default)) (m4:=((opsOf (an (codeOf Tryz.f81) 1 6)).getD 4 default)) (m5:=((opsOf (an (codeOf Tryz.f81) 1 6)).getD 5 default)) (n0:=((opsOf (an (codeOf Tryz.f81) 1 28)).getD 0 default)) (n1:=((opsOf (an (codeOf Tryz.f81) 1 28)).getD 1 default)) (n2:=((opsOf (an (codeOf Tryz.f81) 1 28)).getD 2 default)) (q0:=((opsOf (an (cN (an (codeOf Tryz.f81) 1 58)) 116 232)).getD 0 default)) (r0:=((opsOf (an (cN (an (codeOf Tryz.f81) 1 58)) 116 3736)).getD 0 default)) (r1:=((opsOf (an (cN (an (codeOf Tryz.f81) 1 58)) 116 3736)).getD 1 default)) (r2:=((opsOf (an (cN (an (codeOf Tryz.f81) 1 58)) 116 3736)).getD 2 default))
  (i1:=sk (an (codeOf Tryz.f81) 1 6)) (i2:=sk (an (codeOf Tryz.f81) 1 28)) (i3:=sk (an (cN (an (codeOf Tryz.f81) 1 58)) 116 232)) (i4:=sk (an (cN (an (codeOf Tryz.f81) 1 58)) 116 3736)) (BB:=(an (cN (an (codeOf Tryz.f81) 1 58)) 116 3737)) (r8:=(an (cN (an (codeOf Tryz.f81) 1 58)) 116 935)) (E:=(an (codeOf Tryz.f81) 1 15)) (p3:=232) (pB:=3737) (p8:=935) (pE:=15) (g0:=128) (g1:=129) (g2:=130) (g3:=132) (c0:=fun ps=>sd (((ps,()),()),())) (c1:=fun ps=>sb (((ps,()),()),())) (c2:=fun ps=>sa (((ps,()),()),())) (c3:=fun ps=>r' (((ps,()),()),())) (mk:=p0) abg
  {qt:=(by kernel_rfl),Kk:=(by kernel_rfl),aV:=⟨(by kernel_rfl),(by kernel_rfl),(by kernel_rfl),(by kernel_rfl),(by kernel_rfl),(by kernel_rfl),(by kernel_rfl),(by kernel_rfl),(by kernel_rfl),(by kernel_rfl),(by kernel_rfl),(by kernel_rfl)⟩,LR:=⟨(by kernel_rfl),(by kernel_rfl)⟩,on:=⟨(by kernel_rfl),(by kernel_rfl),(by kernel_rfl)⟩,Cj:=⟨(by kernel_rfl),(by kernel_rfl),(by kernel_rfl)⟩,dst:=⟨(by kernel_rfl),(by kernel_rfl),(by kernel_rfl),(by kernel_rfl),(by kernel_rfl),(by kernel_rfl),(by kernel_rfl),(by kernel_rfl)⟩,I9:=(by decide),Kq:=(by kernel_rfl),_V:=(by kernel_rfl),_U:=(by kernel_rfl),wr:=(by kernel_rfl),auH:=(by kernel_rfl),
   ki:=⟨(fun f hf=>by cases hf),kN (by kernel_rfl) af,kN (by kernel_rfl) af,kN (by kernel_rfl) af⟩,hos:=(fun _ _=>rfl),aE:=(fun ps=>by kernel_rfl),vf:=(fun ps k i=>by kernel_rfl),hlt:=(fun ps k i=>by kernel_rfl),
   hB:=(fun gc h=>by
    simp only[List.mem_cons,List.not_mem_nil,or_false] at h;rcases h with rfl|rfl|rfl|rfl
    ·exact aoh
    ·exact aog
    ·exact aof
    ·exact aoe),
   h8:=(fun ps k i=>by kernel_rfl),hE:=(fun ps k i=>by kernel_rfl)} (fun ps=>rfl) (by kernel_rfl)
abbrev i81:Shape:=⟨[aK 0 .pack],[],24⟩
abbrev _h:Shape:=⟨[ag 2],[],24⟩
noncomputable def f81(a:i81.F):Option _h.F:=
(IG (((),()),(a.1.1,()),())).bind fun b=>
 some ((b.1.1,()),())
noncomputable def aaN:aB:=aG ad Tryz.f81 i81 _h [] f81
theorem aub:ay O 81 aaN:=aJ abg Tryz.func81 (by kernel_rfl) (a6 aoz af) (fun y=>by kernel_rfl) fun a=>by kernel_rfl
noncomputable abbrev axL:a7:=[(81,aaN)]
theorem ayd:aQ O (aY ad axL):=aV ⟨aub,⟨⟩⟩
abbrev i43:Shape:=⟨[b5 0 [bl .pack]],[],7⟩
abbrev _B:Shape:=⟨[ap 2],[],7⟩
noncomputable def f43(a:i43.F):Option _B.F:=
(f81 ((a.1.1.1,()),())).bind fun b=>
 some (((b.1.1==(0:Int)),()),())
noncomputable def CR:aB:=aG ad Tryz.f43 i43 _B [] f43
theorem Kg:ay O 43 CR:=aJ ayd Tryz.func43 (by kernel_rfl) af (fun y=>by kernel_rfl) fun a=>by kernel_rfl
theorem Pq(a)(hs:b9 a.1.1.length):(∃(k:Nat) (q:aS),f160 a=some (((k:Int),()),())/\a.1.1[k]? =some q/\a.1.1.find? (fun p=>p.name==a.1.2.1)=some q)\/
  (f160 a=some ((((-1):Int),()),())/\a.1.1.find? (fun p=>p.name==a.1.2.1)=none):=by
 obtain⟨⟨ps,name,u⟩,bT⟩:=a;have hs:ps.length<=2097152:=hs;have key:∀(r:List aS) (k:Nat),ps.drop k=r->k<=ps.length->(∃(j:Nat) (q:aS),rG ((ps,(name,((k:Int),()))),())=some (.inl (((j:Int),()),()))/\ps[j]? =some q/\r.find? (fun p=>p.name==name)=some q)\/
   (rG ((ps,(name,((k:Int),()))),())=some (.inr ((),()))/\r.find? (fun p=>p.name==name)=none):=by
  intro r;induction r with
  |nil=>
   intro k hr hk;have:=drop_nil hr;have d1:decide ((k:Int)<(ps.length:Int))=false:=by simp only[decide_eq_false_iff_not];omega
   refine .inr ⟨de ?_,rfl⟩;simp only[zA,d1,cond_false]
  |cons q r ih=>
   intro k hr hk;obtain⟨c1,c2,c3⟩:=drop_cons hr;have hw:ax k:=by unfold ax;omega
   have step:zA ((ps,(name,((k:Int),()))),())=some (bif q.name==name then .inr (.inl (((k:Int),()),())) else .inl ((ps,(name,(((k+1:Nat):Int),()))),())):=by
    simp only[zA,cq c3,cond_true,bY,c1,Option.bind_some,b4 hw];cases (q.name==name)<;>rfl
   cases aC:(q.name==name) with
   |true=>
    rw[aC,cond_true] at step;exact .inl ⟨k,q,de step,c1,by simp[List.find?_cons,aC]⟩
   |false=>
    rw[aC,cond_false] at step;rcases ih (k+1) c2 c3 with⟨j,hD,h1,h2,h3⟩|⟨h1,h2⟩
    ·exact .inl ⟨j,hD,(fc step).trans h1,h2,by simp[List.find?_cons,aC];exact h3⟩
    ·exact .inr ⟨(fc step).trans h1,by simp only[List.find?_cons,aC];exact h2⟩
 rcases key ps 0 rfl (Nat.zero_le _) with⟨j,q,h1,h2,h3⟩|⟨h1,h2⟩
 ·have h1:rG ((ps,(name,((0:Int),()))),())=some (.inl (((j:Int),()),())):=h1;exact .inl ⟨j,q,by simp only[f160,h1,Option.bind_some],h2,h3⟩
 ·have h1:rG ((ps,(name,((0:Int),()))),())=some (.inr ((),())):=h1;exact .inr ⟨by simp only[f160,h1,Option.bind_some],h2⟩
abbrev j7(ps:List aS):Prop:=∀p,p∈ps->p.bf.length<=2097151/\∀n,n∈p.bj->n.bf.length<=2097151
def h5(ps:List aS)(n:bQ):Bool:=match ps.find? (fun q=>q.name==n.name) with
 |some q=>sy n q.bf
 |none=>false
def jj(ps:List aS)(n:bQ):Bool:=ps.any fun q=>k3 n q.name q.bf
theorem N7(a)(hb:fj a.1.1)(hv:j7 a.1.1):f110 a=some ((a.1.1.all (fun p=>p.bj.all (h5 a.1.1)),()),()):=by
 obtain⟨⟨ps,u⟩,bT⟩:=a;have hl:ps.length<=2097152:=hb.1;have inner:∀(i:Nat) (p:aS),ps[i]? =some p->Er ((ps,((i:Int),((0:Int),()))),())=some (bif p.bj.all (h5 ps) then .inr ((ps,((i:Int),())),()) else .inl ((false,()),())):=by
  intro i p hp;have s8:=List.mem_of_getElem? hp;have Cz:p.bj.length<=2097152:=(hb.2 p s8).2.2.1.1;have:=fy xK p.bj (fun k=>((ps,((i:Int),((k:Int),()))),())) (fun _ n=>h5 ps n) (.inl ((false,()),())) (.inr ((ps,((i:Int),())),())) (fun k n hn=>?_) ?_
  ·have:=this;rw[gz] at this;exact this
  ·have hk:=cD hn;have hw:ax k:=by unfold ax;omega
   have kr:=List.mem_of_getElem? hn;have h8:=Pq ((ps,(n.name,())),()) hl;simp only[xK,bY,hp,Option.bind_some,cq hk,cond_true,hn];rcases h8 with⟨j,q,h1,h2,h3⟩|⟨h1,h2⟩
   ·have h2:ps[j]? =some q:=h2;have h3:ps.find? (fun p=>p.name==n.name)=some q:=h3
    have aC:=hv q (List.mem_of_getElem? h2);have hf:=ahx (((n.name,(n.kind,(n.bf,()))),(n.name,(q.bf,()))),()) ((hv p s8).2 n kr) aC.1 rfl;have hj:decide ((j:Int)<0)=false:=by simp only[decide_eq_false_iff_not];omega
    simp only[h1,Option.bind_some,w0,hj,cond_false,bY,h2,hf,h5,h3,b4 hw];cases sy n q.bf<;>rfl
   ·have h2:ps.find? (fun p=>p.name==n.name)=none:=h2
    have hj:decide ((-1:Int)<0)=true:=rfl;simp only[h1,Option.bind_some,w0,hj,cond_true,h5,h2,cond_false]
  ·simp only[xK,bY,hp,Option.bind_some,dd,cond_false]
 have key:G6 ((ps,((0:Int),())),())=some (bif allI (fun _ p=>p.bj.all (h5 ps)) 0 ps then .inr ((),()) else .inl ((false,()),())):=by
  refine fy zI ps (fun i=>((ps,((i:Int),())),())) _ _ _ (fun i x hx=>?_) ?_
  ·have hi:=cD hx;have hw:ax i:=by unfold ax;omega
   simp only[zI,cq hi,cond_true,inner i x hx,Option.bind_some];cases x.bj.all (h5 ps)
   ·rfl
   ·simp only[cond_true,b4 hw]
  ·simp only[zI,dd,cond_false]
 rw[gz] at key;simp only[f110,key,Option.bind_some];cases List.all ps (fun p=>p.bj.all (h5 ps))<;>rfl
theorem acO(a)(hb:fj a.1.1)(hv:j7 a.1.1):f131 a=some ((a.1.1.all (fun p=>p.bj.all (jj a.1.1)),()),()):=by
 obtain⟨⟨ps,u⟩,bT⟩:=a;have hl:ps.length<=2097152:=hb.1;have hcon:∀n:bQ,b9 n.name.length->n.bf.length<=2097151->AQ ((ps,(((n.name,(n.kind,(n.bf,()))),()),())),())=some ((jj ps n,()),()):=by
  intro n hn1 avY;have key:∀(r:List aS) (k:Nat),ps.drop k=r->k<=ps.length->∃z:Int,(rk ((ps,(((n.name,(n.kind,(n.bf,()))),()),((ps.length:Int),((k:Int),())))),())).bind (fun aow=>(match aow with
    |.inl aov=>some ((aov.1.1,()),())
    |.inr azK=>some ((((-1):Int),()),()):Option HV.F))=some ((z,()),())/\decide (z>=0)=r.any (fun q=>k3 n q.name q.bf):=by
   intro r;induction r with
   |nil=>
    intro k hr hk;have:=drop_nil hr;have d1:decide ((k:Int)<(ps.length:Int))=false:=by simp only[decide_eq_false_iff_not];omega
    have:rk ((ps,(((n.name,(n.kind,(n.bf,()))),()),((ps.length:Int),((k:Int),())))),())=some (.inr ((),())):=by
     refine de ?_
     simp only[xE,d1,cond_false]
    exact⟨-1,by rw[this];rfl,rfl⟩
   |cons q r ih=>
    intro k hr hk;obtain⟨c1,c2,c3⟩:=drop_cons hr;have hw:ax k:=by unfold ax;omega
    have aC:=hv q (List.mem_of_getElem? c1);have hf:=aez (((n.name,(n.kind,(n.bf,()))),(q.name,(q.bf,()))),()) hn1 avY aC.1;have step:xE ((ps,(((n.name,(n.kind,(n.bf,()))),()),((ps.length:Int),((k:Int),())))),())=some (bif k3 n q.name q.bf then .inr (.inl (((k:Int),()),())) else .inl ((ps,(((n.name,(n.kind,(n.bf,()))),()),((ps.length:Int),(((k+1:Nat):Int),())))),())):=by
     simp only[xE,cq c3,cond_true,bY,c1,Option.bind_some,Ii,hf,b4 hw];cases k3 n q.name q.bf<;>rfl
    rw[List.any_cons];cases aak:k3 n q.name q.bf with
    |true=>
     rw[aak,cond_true] at step;exact⟨k,by rw[show rk _=_ from de step];rfl,by simp⟩
    |false=>
     rw[aak,cond_false] at step;obtain⟨z,h1,h2⟩:=ih (k+1) c2 c3;exact⟨z,by rw[show rk _=_ from fc step];exact h1,by rw[h2];rfl⟩
  obtain⟨z,h1,h2⟩:=key ps 0 rfl (Nat.zero_le _);have h3:AP ((ps,(((n.name,(n.kind,(n.bf,()))),()),())),())=some ((z,()),()):=by
   simp only[AP];exact h1
  simp only[AQ,h3,Option.bind_some,h2,jj]
 have inner:∀(i:Nat) (p:aS),ps[i]? =some p->En ((ps,(ps,((ps.length:Int),((i:Int),(p.bj,((p.bj.length:Int),((0:Int),()))))))),())=some (bif p.bj.all (jj ps) then .inr ((ps,(ps,((ps.length:Int),((i:Int),())))),()) else .inl ((false,()),())):=by
  intro i p hp;have s8:=List.mem_of_getElem? hp;have Cz:p.bj.length<=2097152:=(hb.2 p s8).2.2.1.1;have:=fy xI p.bj (fun k=>((ps,(ps,((ps.length:Int),((i:Int),(p.bj,((p.bj.length:Int),((k:Int),()))))))),())) (fun _ n=>jj ps n) (.inl ((false,()),())) (.inr ((ps,(ps,((ps.length:Int),((i:Int),())))),())) (fun k n hn=>?_) ?_
  ·have:=this;rw[gz] at this;exact this
  ·have hk:=cD hn;have hw:ax k:=by unfold ax;omega
   have kr:=List.mem_of_getElem? hn;have hc:=hcon n ((hb.2 p s8).2.2.1.2 n kr).1 ((hv p s8).2 n kr);simp only[xI,cq hk,cond_true,bY,hn,Option.bind_some,hc,b4 hw];cases jj ps n<;>rfl
  ·simp only[xI,dd,cond_false]
 have key:G4 ((ps,(ps,((ps.length:Int),((0:Int),())))),())=some (bif allI (fun _ p=>p.bj.all (jj ps)) 0 ps then .inr ((),()) else .inl ((false,()),())):=by
  refine fy zG ps (fun i=>((ps,(ps,((ps.length:Int),((i:Int),())))),())) _ _ _ (fun i x hx=>?_) ?_
  ·have hi:=cD hx;have hw:ax i:=by unfold ax;omega
   simp only[zG,cq hi,cond_true,bY,hx,inner i x hx,Option.bind_some];cases x.bj.all (jj ps)
   ·rfl
   ·simp only[cond_true,b4 hw]
  ·simp only[zG,dd,cond_false]
 rw[gz] at key;simp only[f131,key,Option.bind_some];cases List.all ps (fun p=>p.bj.all (jj ps))<;>rfl
theorem ahl:∀ps:List aS,(∀i y,ps[i+1]? =some y->mz ps i y=true)->ps.Pairwise fun p q=>Op.bytesLess p.name q.name=true:=by
 intro ps;induction ps with
 |nil=>intro _;exact List.Pairwise.nil
 |cons x r ih=>
  intro h;have hr:=ih (fun i y hy=>by
   have:=h (i+1) y (by simpa using hy)
   unfold mz at this ⊢;simpa using this)
  refine List.pairwise_cons.2 ⟨fun y hy=>?_,hr⟩
  cases r with
  |nil=>cases hy
  |cons z r=>
   have hz:Op.bytesLess x.name z.name=true:=by
    have:=h 0 z rfl;unfold mz at this;simpa using this
   rcases List.mem_cons.1 hy with rfl|hy
   ·exact hz
   ·exact t_ _ _ _ hz ((List.pairwise_cons.1 hr).1 y hy)
theorem alM{ps:List aS}(h:km ps=true):ps.Pairwise fun p q=>Op.bytesLess p.name q.name=true:=by
 refine ahl ps (fun i y hy=>?_)
 have:=ys ps.tail 0 h i y (by rw[List.getElem?_tail];exact hy)
 rwa[Nat.zero_add] at this
theorem adZ:∀(ps:List aS) (n:bQ),(∀p,p∈ps->dY p.bf=true)->dR n=true->ps.Pairwise (fun p q=>Op.bytesLess p.name q.name=true)->jj ps n=h5 ps n:=by
 intro ps n;induction ps with
 |nil=>intro _ _ _;rfl
 |cons q r ih=>
  intro hv hn hp;have Cy:=List.pairwise_cons.1 hp;have ih:=ih (fun p h=>hv p (List.mem_cons_of_mem _ h)) hn Cy.2
  unfold jj h5 at ih ⊢;rw[List.any_cons,List.find?_cons];cases aC:(q.name==n.name) with
  |true=>
   have hno:r.any (fun q=>k3 n q.name q.bf)=false:=by
    rw[List.any_eq_false];intro p avR;have h1:=Cy.1 p avR;rw[eq_of_beq aC] at h1;have:(p.name==n.name)=false:=by
     cases h:(p.name==n.name) with
     |false=>rfl
     |true=>rw[eq_of_beq h,uJ] at h1;cases h1
    unfold k3;rw[this];simp
   rw[hno];unfold k3;rw[hv q List.mem_cons_self,hn,aC];simp
  |false=>
   have:k3 n q.name q.bf=false:=by unfold k3;rw[aC];simp
   rw[this,Bool.false_or];exact ih
def fP(ps:List aS):Bool:=ps.all ct&&km ps&&decide (ps.length<=5)&&ps.all (fun p=>p.bj.all (h5 ps))&&(e9 [] ps).isSome
def jo(ps:List aS):Int:=bif ps.all ct&&km ps then(bif decide (ps.length<=5) then(bif ps.all (fun p=>p.bj.all (h5 ps)) then(bif(e9 [] ps).isSome then 0 else 5) else 4) else 6) else 1
theorem adN(ps:List aS):fP ps=(jo ps==0):=by
 unfold fP jo;cases ps.all ct<;>cases km ps<;>cases decide (ps.length<=5)<;>cases ps.all (fun p=>p.bj.all (h5 ps))<;>cases (e9 [] ps).isSome<;>rfl
theorem afr{aI:Type}(ok:Nat->aI->Bool):∀(xs:List aI) (j:Nat),allI ok (j+1) xs=allI (fun i=>ok (i+1)) j xs:=by
 intro xs;induction xs with
 |nil=>intro j;rfl
 |cons x r ih=>intro j;simp only[allI,ih]
def sY(ps:List aS)(i:Nat)(x:aS):Bool:=ct x&&(i==0||mz ps (i-1) x)
theorem Rq(ps:List aS):allI (sY ps) 0 ps=(ps.all ct&&km ps):=by
 unfold sY;rw[FM,gz];congr 1
 unfold km;cases ps with
 |nil=>rfl
 |cons x r=>
  simp only[allI,beq_self_eq_true,Bool.true_or,Bool.true_and,List.tail_cons];rw[afr];refine N1 r 0 (fun i y _ _=>?_)
  have:(i+1==0)=false:=rfl;rw[this,Bool.false_or,Nat.add_sub_cancel]
theorem Pu(a)(hb:fj a.1.1.1)(hv:j7 a.1.1.1):f30 a=some ((fP a.1.1.1,()),()):=by
 obtain⟨⟨⟨ps,u⟩,bT⟩,mL⟩:=a;have hl:ps.length<=2097152:=hb.1;have key:Ar ((ps,((0:Int),())),())=some (bif allI (sY ps) 0 ps then .inr ((ps,()),()) else .inl (((1:Int),()),())):=by
  refine fy pW ps (fun i=>((ps,((i:Int),())),())) _ _ _ (fun i x hx=>?_) ?_
  ·have hi:=cD hx;have hw:ax i:=by unfold ax;omega
   have pc:=hb.2 x (List.mem_of_getElem? hx);simp only[pW,cq hi,cond_true,zn,bY,hx,Option.bind_some];rw[EO _ pc];simp only[Option.bind_some,sY,BP];cases ct x with
   |false=>rfl
   |true=>
    simp only[Bool.not_true,cond_false,Bool.true_and,mz];cases i with
    |zero=>simp only[beq_self_eq_true,Bool.not_true,cond_false,Option.bind_some,Bool.true_or,cond_true,b4 hw]
    |succ i=>
     have h0:(i+1==0)=false:=rfl;have iX:i<ps.length:=by omega
     obtain⟨q,aC⟩:∃q,ps[i]? =some q:=⟨ps[i],List.getElem?_eq_getElem iX⟩;simp only[h0,Bool.not_false,cond_true,tO (i:=i) (by unfold ax;omega),bY,aC,hx,Option.bind_some,Bool.false_or,Nat.add_sub_cancel]
     cases Op.bytesLess q.name x.name with
     |false=>rfl
     |true=>simp only[Bool.not_true,cond_false,cond_true,b4 hw]
  ·simp only[pW,dd,cond_false]
 rw[Rq] at key;have bi:decide ((ps.length:Int)>5)=!decide (ps.length<=5):=by by_cases h:ps.length<=5<;>simp only[h,decide_true,decide_false,Bool.not_true,Bool.not_false,decide_eq_true_eq,decide_eq_false_iff_not]<;>omega
 simp only[f30,f60,key,Option.bind_some,fP];cases dH:(ps.all ct&&km ps) with
 |false=>rfl
 |true=>
  have hk:ps.all ct=true:=by simp only[Bool.and_eq_true] at dH;exact dH.1
  obtain⟨out,aw⟩:=Po ((ps,()),()) hb hk;have hn:=N7 ((ps,()),()) hb hv;simp only[cond_true,Option.bind_some,aw,bi,Bool.true_and];cases decide (ps.length<=5) with
  |false=>rfl
  |true=>
   simp only[Bool.not_true,cond_false,hn,Option.bind_some,Bool.true_and];cases ps.all (fun p=>p.bj.all (h5 ps))<;>cases (e9 [] ps).isSome<;>rfl
theorem aeo(a)(hb:fj a.1.1)(hv:j7 a.1.1):f81 a=some ((jo a.1.1,()),()):=by
 obtain⟨⟨ps,u⟩,bT⟩:=a;have hl:ps.length<=2097152:=hb.1;have e1:=afL ((ps,((),())),()) hb;have e2:=acu ((ps,()),()) hl;have bv:=acO ((ps,()),()) hb hv;have bi:decide ((ps.length:Int)>5)=!decide (ps.length<=5):=by by_cases h:ps.length<=5<;>simp only[h,decide_true,decide_false,Bool.not_true,Bool.not_false,decide_eq_true_eq,decide_eq_false_iff_not]<;>omega
 have c0:sd (((ps,()),()),())=some (((bif ps.all ct&&km ps then(0:Int) else 1),()),()):=by
  simp only[sd,EC,e1,Bool.not_not,Option.bind_some];cases ps.all ct with
  |false=>rfl
  |true=>simp only[cond_true,e2,Option.bind_some,Bool.true_and];cases km ps<;>rfl
 have c1:sb (((ps,()),()),())=some (((bif decide (ps.length<=5) then(0:Int) else 6),()),()):=by
  simp only[sb,bi];cases decide (ps.length<=5)<;>rfl
 have c2:sa (((ps,()),()),())=some (((bif ps.all (fun p=>p.bj.all (jj ps)) then(0:Int) else 4),()),()):=by
  simp only[sa,bv,Option.bind_some];cases ps.all (fun p=>p.bj.all (jj ps))<;>rfl
 have c3:ps.all ct=true->r' (((ps,()),()),())=some (((bif(e9 [] ps).isSome then(0:Int) else 5),()),()):=by
  intro hk;obtain⟨out,aw⟩:=adx ((ps,()),()) hb hk;simp only[r',aw,Option.bind_some];cases (e9 [] ps).isSome<;>rfl
 have z:∀n:Int,((n:Int) !=0)=!(n==0):=fun n=>rfl
 simp only[f81,IG,pX,c0,c1,c2,p0,Option.bind_some,jo];cases dH:(ps.all ct&&km ps) with
 |false=>rfl
 |true=>
  simp only[Bool.and_eq_true] at dH;have am5:ps.all (fun p=>p.bj.all (jj ps))=ps.all (fun p=>p.bj.all (h5 ps)):=by
   rw[Bool.eq_iff_iff];simp only[List.all_eq_true];have hvs:∀p,p∈ps->dY p.bf=true:=fun p hp=>by
    have:=List.all_eq_true.1 dH.1 p hp;unfold ct at this;simp only[Bool.and_eq_true] at this;exact this.1.1.2
   have hns:∀p,p∈ps->∀n,n∈p.bj->jj ps n=h5 ps n:=fun p hp n hn=>by
    have:=List.all_eq_true.1 dH.1 p hp;unfold ct pQ at this;simp only[Bool.and_eq_true] at this;exact adZ ps n hvs (List.all_eq_true.1 this.1.2.1.1 n hn) (alM dH.2)
   constructor
   ·intro h p hp n hn;rw[<-hns p hp n hn];exact h p hp n hn
   ·intro h p hp n hn;rw[hns p hp n hn];exact h p hp n hn
  rw[am5,c3 dH.1];cases decide (ps.length<=5)<;>cases ps.all (fun p=>p.bj.all (h5 ps))<;>cases (e9 [] ps).isSome<;>rfl
theorem D0(a)(hb:fj a.1.1.1)(hv:j7 a.1.1.1):f43 a=some ((fP a.1.1.1,()),()):=by
 obtain⟨⟨⟨ps,u⟩,bT⟩,mL⟩:=a;have e:=aeo ((ps,()),()) hb hv;simp only[f43,e,Option.bind_some,adN]
abbrev i217:Shape:=⟨[(0,.am (.d (.int .u32))),ag 1],[],17⟩
abbrev V3:Shape:=⟨[(4,.am (.d (.int .u32)))],[],17⟩
noncomputable def f217(a:i217.F):Option V3.F:=
(la .u32 a.1.1 (et .u64 (IntKind.u64.wrap a.1.2.1) (31:Int))).bind fun b=>
(eZ .u32 a.1.1 (IntKind.u64.wrap ((32:Int)-(et .u64 (IntKind.u64.wrap a.1.2.1) (31:Int))))).bind fun c=>
 some (((hq .u32 b c),()),())
noncomputable def Yn:aB:=aG ad Tryz.f217 i217 V3 [] f217
theorem apP:ay O 217 Yn:=aJ g0 Tryz.func217 (by kernel_rfl) af (fun y=>by kernel_rfl) fun a=>by kernel_rfl
noncomputable abbrev asE:a7:=[(217,Yn)]
theorem atI:aQ O (aY ad asE):=aV ⟨apP,⟨⟩⟩
abbrev i171:Shape:=⟨[(0,.am (.d (.int .u32))),ag 1],[],9⟩
abbrev Wy:Shape:=⟨[(4,.am (.d (.int .u32)))],[],9⟩
noncomputable def f171(a:i171.F):Option Wy.F:=
(f217 ((a.1.1,(IntKind.i64.wrap (0-a.1.2.1)),()),())).bind fun b=>
 some ((b.1.1,()),())
noncomputable def YM:aB:=aG ad Tryz.f171 i171 Wy [] f171
theorem z171:ay O 171 YM:=aJ atI Tryz.func171 (by kernel_rfl) af (fun y=>by kernel_rfl) fun a=>by kernel_rfl
abbrev i278:Shape:=⟨[(0,.am (.d (.int .u32))),ag 1],[],13⟩
abbrev VE:Shape:=⟨[(4,.am (.d (.int .u32)))],[],13⟩
noncomputable def f278(a:i278.F):Option VE.F:=
(eZ .u32 a.1.1 a.1.2.1).bind fun b=>
(la .u32 a.1.1 (IntKind.i64.wrap ((32:Int)-a.1.2.1))).bind fun c=>
 some (((hq .u32 b c),()),())
noncomputable def JF:aB:=aG ad Tryz.f278 i278 VE [] f278
theorem Vb:ay O 278 JF:=aJ g0 Tryz.func278 (by kernel_rfl) af (fun y=>by kernel_rfl) fun a=>by kernel_rfl
noncomputable abbrev ar0:a7:=[(278,JF)]
theorem J1:aQ O (aY ad ar0):=aV ⟨Vb,⟨⟩⟩
abbrev yB:Shape:=⟨[aK 0 .u8,a_ 3 3000192,ag 4],[a8 3000192 .u32 3 0],100⟩
abbrev FZ:List aO:=[(.exit 0,⟨[a_ 3 3000192],[a8 3000192 .u32 3 0],100⟩)]
noncomputable def Hh(y:yB.F):bD yB FZ:=
 bif(decide (y.1.2.2.1<(16:Int))) then
(aN y.1.1 (IntKind.i64.wrap ((4:Int)*y.1.2.2.1))).bind fun a=>
(la .u32 (IntKind.u32.wrap a) (24:Int)).bind fun b=>
(aN y.1.1 (IntKind.i64.wrap ((IntKind.i64.wrap ((4:Int)*y.1.2.2.1))+(1:Int)))).bind fun c=>
(la .u32 (IntKind.u32.wrap c) (16:Int)).bind fun d=>
(aN y.1.1 (IntKind.i64.wrap ((IntKind.i64.wrap ((4:Int)*y.1.2.2.1))+(2:Int)))).bind fun e=>
(la .u32 (IntKind.u32.wrap e) (8:Int)).bind fun f=>
(aN y.1.1 (IntKind.i64.wrap ((IntKind.i64.wrap ((4:Int)*y.1.2.2.1))+(3:Int)))).bind fun g=>
(cj 4 y.2.1 ([(hq .u32 (hq .u32 (hq .u32 b d) f) (IntKind.u32.wrap g))]:List Int)).bind fun h=>
 some (.inl ((y.1.1,(),(IntKind.i64.wrap (y.1.2.2.1+(1:Int))),()),h,()))
else
 some (.inr (((),()),y.2.1,()))
noncomputable def GL:yB.F->Option (aA FZ):=bo Hh
theorem akg:aT O (an (codeOf Tryz.f276) 1 58) (aU yB FZ GL):=bE J1 (by kernel_rfl) af fun y=>by kernel_rfl
abbrev xV:Shape:=⟨[a_ 3 3000192,ag 5],[a8 3000192 .u32 3 0],100⟩
abbrev EU:List aO:=[(.exit 2,⟨[a_ 3 3000192],[a8 3000192 .u32 3 0],100⟩)]
noncomputable def FC(y:xV.F):bD xV EU:=
 bif(decide (y.1.2.1<(64:Int))) then
(bk y.2.1.length (IntKind.i64.wrap (y.1.2.1-(15:Int)))).bind fun a=>
(y.2.1[a]?).bind fun b=>
(bk y.2.1.length (IntKind.i64.wrap (y.1.2.1-(2:Int)))).bind fun c=>
(y.2.1[c]?).bind fun d=>
(f278 ((b,(7:Int),()),())).bind fun e=>
(f278 ((b,(18:Int),()),())).bind fun f=>
(eZ .u32 b (3:Int)).bind fun g=>
(f278 ((d,(17:Int),()),())).bind fun h=>
(f278 ((d,(19:Int),()),())).bind fun i=>
(eZ .u32 d (10:Int)).bind fun j=>
(bk y.2.1.length (IntKind.i64.wrap (y.1.2.1-(16:Int)))).bind fun k=>
(y.2.1[k]?).bind fun l=>
(bk y.2.1.length (IntKind.i64.wrap (y.1.2.1-(7:Int)))).bind fun m=>
(y.2.1[m]?).bind fun n=>
(cj 4 y.2.1 ([(IntKind.u32.wrap ((IntKind.u32.wrap ((IntKind.u32.wrap (l+(c4 .u32 (c4 .u32 e.1.1 f.1.1) g)))+n))+(c4 .u32 (c4 .u32 h.1.1 i.1.1) j)))]:List Int)).bind fun B=>
 some (.inl (((),(IntKind.i64.wrap (y.1.2.1+(1:Int))),()),B,()))
else
 some (.inr (((),()),y.2.1,()))
noncomputable def Fj:xV.F->Option (aA EU):=bo FC
theorem aik:aT O (an (codeOf Tryz.f276) 1 122) (aU xV EU Fj):=bE J1 (by kernel_rfl) af fun y=>by kernel_rfl
abbrev i276:Shape:=⟨[aK 0 .u8],[],100⟩
abbrev VG:Shape:=⟨[a_ 2 3000128],[a8 3000128 .u32 2 0],100⟩
noncomputable def f276(a:i276.F):Option VG.F:=
(jv 4 (0:Int) (64:Int) (0:Int)).bind fun b=>
(GL ((a.1.1,(),(0:Int),()),b,())).bind fun c=>
(Fj (((),(16:Int),()),c.2.1,())).bind fun d=>
 some (((),()),d.2.1,())
noncomputable def X3:aB:=aG ad Tryz.f276 i276 VG [] f276
theorem apz:ay O 276 X3:=aJ J1 Tryz.func276 (by kernel_rfl) (a6 akg (a6 aik af)) (fun y=>by kernel_rfl) fun a=>by kernel_rfl
end Go.Proofs
