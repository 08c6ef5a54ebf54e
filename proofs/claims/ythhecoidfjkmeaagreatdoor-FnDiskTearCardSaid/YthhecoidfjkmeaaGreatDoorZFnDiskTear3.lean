/- FnDiskTear: writing a root is atomic. (part 4 of 7: JkKTy, JkKSp, JkKOp, JkKBc, JkKEn, JkKF115, JkKF74, JkKF75, JkKF87, JkKF99, JkKPuA, JkKF73, JkKPuB, JkKFH271, JkKF244, JkKF209, JkKF212, JkKIt, JkKF151, JkKF100, JkKF102, JkKF140, JkKF88, JkKF192, JkK) Conditions: none beyond the statement. -/
import Derived.Test.YthhecoidfjkmeaaGreatDoorZFnDiskTear2
import Derived.Tactics
import Derived.Deep.RegionLaw
import Derived.Shelf.Abstract
import Derived.Test.YthhecoidfjkmeaaGreatDoorProg
import Derived.KernelRfl
import Derived.Lib.Builder
import Derived.Lib.UnsafeStr
import Derived.WalkKit
import Derived.Shelf.RegionOpenPlain
set_option linter.unusedSimpArgs false
set_option maxRecDepth 100000
set_option linter.unusedVariables false
namespace Go.Proofs
open Go.Jk
noncomputable abbrev O:Program:=Tryz.prog
noncomputable def awN:List (Nat×cg):=[
(2,.int .i64),
(3,.int .i64),
(4,.bool),
(5,.int .u8),
(6,.int .u8),
(7,.struct [(0,1),(1,1),(2,1),(3,1)] 4 [.d (.int .i64 0),.d (.int .i64 0),.d (.bool false),.d (.int .u8 0)] false),
(8,.struct [(0,1),(1,1),(2,1),(3,1)] 4 [.d (.int .i64 0),.d (.int .i64 0),.d (.bool false),.d (.int .u8 0)] false),
(9,.str),
(10,.str),
(11,.str),
(12,.int .u64),
(13,.struct [(0,1),(1,1)] 2 [.d (.str []),.d (.int .u64 0)] false),
(14,.struct [(0,1),(1,1)] 2 [.d (.str []),.d (.int .u64 0)] false),
(15,.ptr),
(16,.ptr),
(17,.ptr),
(18,.struct [(0,1)] 1 [.cW (.pointer none)] false),
(19,.struct [(0,1)] 1 [.cW (.pointer none)] false),
(20,.iface),
(21,.int .i32),
(22,.struct [(0,1),(1,1)] 2 [.d (.str []),.d (.str [])] false),
(23,.struct [(0,1),(1,1)] 2 [.d (.str []),.d (.str [])] false),
(26,.struct [(0,1),(1,1)] 2 [.d (.str []),.d (.str [])] false),
(29,.slice 115 .pack 80),
(30,.struct [(0,1)] 1 [.nil .pack] false),
(31,.struct [(0,1)] 1 [.nil .pack] false),
(34,.slice 66 .pack 80),
(35,.struct [(0,1)] 1 [.nil .pack] false),
(36,.struct [(0,1)] 1 [.nil .pack] false),
(41,.slice 120 .file 32),
(42,.struct [(0,1),(1,1),(2,2)] 4 [.nil .file,.nil .pack,.d (.str []),.d (.str [])] false),
(43,.struct [(0,1),(1,1),(2,2)] 4 [.nil .file,.nil .pack,.d (.str []),.d (.str [])] false),
(46,.slice 124 .file 32),
(47,.struct [(0,1),(1,1),(2,2)] 4 [.nil .file,.nil .pack,.d (.str []),.d (.str [])] false),
(48,.struct [(0,1),(1,1),(2,2)] 4 [.nil .file,.nil .pack,.d (.str []),.d (.str [])] false),
(52,.slice 5 .u8 1),
(63,.slice 133 .need 40),
(64,.slice 178 .entry 48),
(65,.struct [(0,1),(1,1),(2,1),(3,1)] 4 [.d (.str []),.d (.str []),.nil .need,.nil .entry] false),
(66,.struct [(0,1),(1,1),(2,1),(3,1)] 4 [.d (.str []),.d (.str []),.nil .need,.nil .entry] false),
(84,.ptr),
(89,.ptr),
(90,.struct [(0,1),(1,1)] 2 [.cW (.pointer none),.nil .u8] false),
(91,.struct [(0,1),(1,1)] 2 [.cW (.pointer none),.nil .u8] false),
(92,.iface),
(93,.iface),
(103,.slice 9 .str 16),
(109,.slice 3 .i64 8),
(112,.slice 209 .need 40),
(113,.slice 211 .entry 48),
(114,.struct [(0,1),(1,1),(2,1),(3,1)] 4 [.d (.str []),.d (.str []),.nil .need,.nil .entry] false),
(115,.struct [(0,1),(1,1),(2,1),(3,1)] 4 [.d (.str []),.d (.str []),.nil .need,.nil .entry] false),
(119,.struct [(0,1),(1,1)] 2 [.d (.str []),.d (.str [])] false),
(120,.struct [(0,1),(1,1)] 2 [.d (.str []),.d (.str [])] true),
(124,.struct [(0,1),(1,1)] 2 [.d (.str []),.d (.str [])] true),
(132,.struct [(0,1),(1,1),(2,1)] 3 [.d (.str []),.d (.int .i64 0),.d (.str [])] false),
(133,.struct [(0,1),(1,1),(2,1)] 3 [.d (.str []),.d (.int .i64 0),.d (.str [])] true),
(140,.struct [(0,1),(1,1)] 2 [.nil .u8,.d (.int .i64 0)] false),
(141,.struct [(0,1),(1,1)] 2 [.nil .u8,.d (.int .i64 0)] false),
(144,.ptr),
(153,.int .u32),
(154,.arr 153 .u32 8),
(155,.int .u64),
(157,.slice 153 .u32 4),
(164,.func),
(177,.struct [(0,1),(1,1),(2,1),(3,1)] 4 [.d (.str []),.d (.int .i64 0),.d (.int .i64 0),.d (.str [])] false),
(178,.struct [(0,1),(1,1),(2,1),(3,1)] 4 [.d (.str []),.d (.int .i64 0),.d (.int .i64 0),.d (.str [])] true),
(183,.slice 3 .i64 8),
(202,.arr 153 .u32 64),
(203,.int .u64),
(209,.struct [(0,1),(1,1),(2,1)] 3 [.d (.str []),.d (.int .i64 0),.d (.str [])] true),
(211,.struct [(0,1),(1,1),(2,1),(3,1)] 4 [.d (.str []),.d (.int .i64 0),.d (.int .i64 0),.d (.str [])] true),
(251,.arr 4 .bool 256),
(252,.arr 4 .bool 256),
(264,.ptr),
(271,.struct [(0,1),(1,1)] 2 [.d (.int .u8 0),.d (.int .u8 0)] false),
(272,.struct [(0,1),(1,1)] 2 [.d (.int .u8 0),.d (.int .u8 0)] false),
(277,.struct [(0,1),(1,1),(2,1),(3,1)] 4 [.cW (.pointer none),.cW (.pointer none),.cW (.pointer none),.d (.str [])] false),
(278,.struct [(0,1),(1,1),(2,1),(3,1)] 4 [.cW (.pointer none),.cW (.pointer none),.cW (.pointer none),.d (.str [])] false),
(282,.int .u8),
(283,.int .u8),
(285,.int .i32),
(286,.int .i32),
(287,.struct [(0,1),(1,1),(2,1),(3,1),(4,1),(5,1),(6,1),(7,1),(8,1),(9,1),(10,1)] 11 [.d (.int .u64 0),.d (.int .u64 0),.d (.int .u32 0),.d (.int .u8 0),.d (.int .u8 0),.d (.int .u8 0),.d (.int .u8 0),.cW .nilFunc,.cW (.pointer none),.d (.int .i32 0),.d (.int .i32 0)] false),
(288,.struct [(0,1),(1,1),(2,1),(3,1),(4,1),(5,1),(6,1),(7,1),(8,1),(9,1),(10,1)] 11 [.d (.int .u64 0),.d (.int .u64 0),.d (.int .u32 0),.d (.int .u8 0),.d (.int .u8 0),.d (.int .u8 0),.d (.int .u8 0),.cW .nilFunc,.cW (.pointer none),.d (.int .i32 0),.d (.int .i32 0)] false)]
noncomputable def tt:TypeId->cg:=C8 awN
noncomputable def ad:Env:=⟨tt,[(198,266)],[230],[59],[112],[65],[(0,⟨.u32,iJ⟩)]⟩
abbrev bG(s:Shape)(t:List aP):=Option (Sum s.J (aC t))
theorem aqo(s p:ByteArray)(k:Int)(w:World):Calls O 232 #[.string s,.string p,.int .i64 k] w fun e w'=>
  e=.returned (.func (.func 266) #[] #[.pointer (some ⟨w.heap.size+1,0,none⟩),.pointer (some ⟨w.heap.size,0,none⟩),.pointer (some ⟨w.heap.size+2,0,none⟩)])/\
  w'=((w.alloc (.cells #[.string s] 9)).alloc (.cells #[.string p] 9)).alloc (.cells #[.int .i64 k] 3):=by
 go_enter Tryz.func232,Tryz.ntmps232
 go_wp2
 go_ret
 exact⟨rfl,rfl⟩
theorem aqp(s p:ByteArray)(w:World):Calls O 198 #[.string s,.string p] w fun e w'=>
  e=.returned (.func (.func 266) #[] #[.pointer (some ⟨w.heap.size+1,0,none⟩),.pointer (some ⟨w.heap.size,0,none⟩),.pointer (some ⟨w.heap.size+2,0,none⟩)])/\
  w'=((w.alloc (.cells #[.string s] 9)).alloc (.cells #[.string p] 9)).alloc (.cells #[.int .i64 0] 3):=by
 go_enter Tryz.func198,Tryz.ntmps198
 go_wp2_with (go_at_call 232;refine(aqo _ _ _ _).mono ?_;rintro e w' ⟨rfl,rfl⟩)
 go_ret
 exact⟨rfl,rfl⟩
theorem asA:By O 198 266:=fun a b w=>.inl ⟨enters_of Tryz.func198 (by kernel_rfl) rfl _ _,(aqp a b w).mono fun e w' h=>by obtain⟨rfl,rfl⟩:=h;exact⟨9,3,rfl,rfl⟩⟩
theorem aw2(w:World):Calls O 59 #[.slice none 0 0] w fun e w'=>e=.returned (.pointer (some ⟨w.heap.size,0,none⟩))/\w'=w.alloc (.cells #[.slice none 0 0,.int .i64 0] 141):=by
 go_enter Tryz.func59,Tryz.ntmps59
 go_wp2
 go_ret
 exact⟨rfl,rfl⟩
theorem aw1(w:World)(a:Addr)(n c:Nat)(h:n<=2000):Calls O 59 #[.slice (some a) n c] w fun e w'=>e=.returned (.pointer (some ⟨w.heap.size,0,none⟩))/\w'=w.alloc (.cells #[.slice (some a) n c,.int .i64 0] 141):=by
 have h1:¬((n:Int)>2000):=by omega
 go_enter Tryz.func59,Tryz.ntmps59
 go_wp2
 go_ret
 exact⟨rfl,rfl⟩
theorem aw3(w:World)(a:Addr)(n c:Nat)(h:2000<n)(hc:n<=c):Calls O 59 #[.slice (some a) n c] w fun e w'=>e=.returned (.pointer (some ⟨w.heap.size,0,none⟩))/\w'=w.alloc (.cells #[.slice (some a) 2000 c,.int .i64 0] 141):=by
 have h1:((n:Int)>2000):=by omega
 go_enter Tryz.func59,Tryz.ntmps59
 go_wp2
 go_ret
 exact⟨rfl,rfl⟩
theorem as3:CC O 59:=fun xs v w av hr=>.inl ⟨enters_of Tryz.func59 (by kernel_rfl) rfl _ _,by
 have fin:∀{v:Value} {u:Value},bK w av (.sl .u8 (xs.take 2000)) u->Calls O 59 #[v] w (fun e w'=>e=.returned (.pointer (some ⟨w.heap.size,0,none⟩))/\w'=w.alloc (.cells #[u,.int .i64 0] 141))->
   Calls O 59 #[v] w fun e w'=>match e,w' with
    |.returned v',w'=>∃u T,bK w av (.sl .u8 (xs.take 2000)) u/\v'=.pointer (some ⟨w.heap.size,0,none⟩)/\w'=w.alloc (.cells #[u,.int .i64 0] T)
    |_,_=>False:=fun hu hc=>hc.mono fun e w' h=>by obtain⟨rfl,rfl⟩:=h;exact⟨_,_,hu,rfl,rfl⟩
 cases hr with
 |nil=>exact fin (.nil .u8) (aw2 w)
 |sl t xs a cap cs n hn hcap hb hl hc hr=>
  by_cases h:2000<n
  ·refine fin (u:=.slice (some a) 2000 cap) ?_ (aw3 w a n cap h hcap);have hlen:(xs.take 2000).length=2000:=by simp only[List.length_take];omega
   have hf:flat .u8 (xs.take 2000)=(flat .u8 xs).take 2000:=by rw[mX];rfl
   refine .sl .u8 (xs.take 2000) a cap (cs.take 2000) 2000 hlen.symm (by omega) (fun hx=>hb (fun e=>hx (by rw[e];rfl))) (by rw[hf,List.length_take,List.length_take,hl]) (fun j u hu=>?_) (fun j h1 h2=>?_)
   ·rw[List.getElem?_take] at hu;split at hu
    ·exact hc j u hu
    ·cases hu
   ·have h1':j<(flat .u8 xs).length:=by rw[hf,List.length_take] at h1;omega
    have h2':j<cs.length:=by rw[List.length_take] at h2;omega
    have e1:(flat .u8 (xs.take 2000))[j]=(flat .u8 xs)[j]:=by simp only[hf,List.getElem_take]
    have e2:(cs.take 2000)[j]=cs[j]:=List.getElem_take;rw[e1,e2];exact hr j h1' h2'
  ·refine fin (u:=.slice (some a) n cap) ?_ (aw1 w a n cap (by omega))
   rw[List.take_of_length_le (by omega)]
   exact .sl .u8 xs a cap cs n hn hcap hb hl hc hr⟩
set_option maxHeartbeats 1000000 in
theorem apt(b:Nat)(w:World)(h0:w.cell? ⟨b,0,none⟩=some (.pointer (some ⟨b,0,none⟩))):
  Calls O 112 #[.pointer (some ⟨b,0,none⟩)] w fun e w'=>e=.returned (.tuple #[])/\w'=w:=by
 obtain⟨j,hj,_⟩:=Option.map_eq_some_iff.1 (show(O.info? 91).map (·.size)=some 2 by kernel_rfl)
 go_enter Tryz.func112,Tryz.ntmps112
 go_wp2
 rw[Lib.run_neq_ptr_same w _ (show O.underlying 89=some (.pointer 91) by kernel_rfl) hj]
 go_wp2
 go_end0
 exact⟨rfl,rfl⟩
set_option maxHeartbeats 1000000 in
theorem anL(b:Nat)(w:World)(h0:w.cell? ⟨b,0,none⟩=some (.pointer none))(hsh:w.shape? b=some (91,2))(hfz:w.frozen? ⟨b,0,none⟩=false):
  Calls O 112 #[.pointer (some ⟨b,0,none⟩)] w fun e w'=>e=.returned (.tuple #[])/\w'=w.setCell ⟨b,0,none⟩ (.pointer (some ⟨b,0,none⟩)):=by
 obtain⟨j,hj,hjs⟩:=Option.map_eq_some_iff.1 (show(O.info? 91).map (·.size)=some 2 by kernel_rfl)
 go_enter Tryz.func112,Tryz.ntmps112
 go_wp2
 rw[Lib.run_to_unsafe w ⟨b,0,none⟩ (show O.underlying 89=some (.pointer 91) by kernel_rfl) (show O.underlying 193=some .unsafePointer by kernel_rfl) hj (by rw[hjs];decide) hsh (Nat.zero_lt_succ 1)]
 simp only[Result.andThen];rw[Oper.upon_value]
 go_wp2
 rw[run_callFunc_extern Tryz.func164 (by kernel_rfl) (by kernel_rfl) (by kernel_rfl) (e:=Extern.AbiNoEscape.same) (by kernel_rfl)]
 rw[Lib.run_noEscape];simp only[Result.andThen];rw[Oper.upon_value]
 go_wp2
 rw[Lib.run_from_unsafe w ⟨b,0,none⟩ (show O.underlying 193=some .unsafePointer by kernel_rfl) (show O.underlying 89=some (.pointer 91) by kernel_rfl) hj hsh (by kernel_rfl)]
 simp only[Result.andThen];rw[Oper.upon_value]
 go_wp2
 go_end0
 exact⟨rfl,rfl⟩
theorem ara:CE O 112:=by
 intro b p v w hb hp;refine .inl ⟨enters_of Tryz.func112 (by kernel_rfl) rfl _ _,?_⟩
 rcases hp with rfl|rfl
 ·refine(anL b w (by rw[Lib.cell_of_heap hb];rfl) (by simp[World.shape?,hb];rfl) (by simp[World.frozen?,hb])).mono ?_
  rintro e w' ⟨rfl,rfl⟩;refine⟨rfl,?_⟩;rw[setCell_eq_setRow w b 0 _ _ _ _ hb];rfl
 ·refine(apt b w (by rw[Lib.cell_of_heap hb];rfl)).mono ?_
  rintro e w' ⟨rfl,rfl⟩;exact⟨rfl,(setRow_self w' b _ _ _ hb).symm⟩
section
variable {P:Program}(w:World)
theorem Ov:∀(xs:List Int) (a:Addr) (acc:ByteArray),(∀j x,xs[j]? =some x->w.cell? (a.add j)=some (.int .u8 x))->
  (loadBytes a acc xs.length).run P w=.ok ⟨acc.data++(strOf xs).toArray⟩ w
 |[],a,acc,_=>by simp[loadBytes,strOf]
 |x::l,a,acc,h=>by
  have h0:w.cell? a=some (.int .u8 x):=by
   have:=h 0 x rfl;simpa[Addr.add] using this
  have ih:=Ov l (a.add 1) (acc.push (UInt8.ofNat x.toNat)) (fun j y hy=>by
   have:=h (j+1) y (by simpa using hy)
   have e:(a.add 1).add j=a.add (j+1):=by
    unfold Addr.add;by_cases hj:j=0
    ·subst hj;simp
    ·simp[hj];omega
   rw[e];exact this)
  have hx:(x.toNat).toUInt8=UInt8.ofNat x.toNat:=rfl;simp only[List.length_cons,loadBytes,Sem.run_bind,run_load,h0,Result.andThen,hx];rw[ih];congr 1
  apply ByteArray.ext;simp[ByteArray.push,strOf]
theorem ad8(pt it ty e:TypeId)(hp:P.underlying pt=some (.pointer e))(hc:P.cellsOf e=1)(g cells:Nat)(hsh:w.shape? g=some (e,cells))(l:List Int)(h0:l≠[])(hn:l.length<=cells)(h63:l.length<=9223372036854775807)
  (hcell:∀j x,l[j]? =some x->w.cell? ((⟨g,0,none⟩:Addr).add j)=some (.int .u8 x)):
  (Builtin.unsafeString_ #[pt,it] ty #[.pointer (some ⟨g,0,none⟩),.int .i64 l.length]).run P w=.ok (.string ⟨(strOf l).toArray⟩) (w.freeze ⟨g,0,none⟩ l.length):=by
 have hl:l.length≠0:=by simpa using h0
 have hlb:=Ov (P:=P) w l ⟨g,0,none⟩ .empty hcell;have hlies:=Lib.liesAt_bytes (P:=P) hc (cells/P.cellsOf e) l.length (by rw[hc];simpa using hn)
 have h63':¬(9223372036854775807:Int)<(l.length:Int):=by omega
 have hmax:IntKind.i64.max=9223372036854775807:=rfl;have hneg:¬(l.length:Int)<0:=by omega
 change Sem.run P (bind (asInt (.int .i64 (l.length:Int))) _) w=_;simp[asInt,asIntOf,hmax,h63',hneg,hl,variablesAt,hsh,elemOf,run_underlying hp,hlies,hlb]
theorem agc(a:Addr)(n:Nat):(w.freeze a n).os=w.os/\(w.freeze a n).tape=w.tape/\(w.freeze a n).output=w.output/\(w.freeze a n).heap.size=w.heap.size/\
  (∀c,c≠a.block->(w.freeze a n).heap[c]? =w.heap[c]?)/\∀cur e fz,w.heap[a.block]? =some (.cells cur e fz)->∃fz',(w.freeze a n).heap[a.block]? =some (.cells cur e fz'):=by
 unfold World.freeze;split
 ·exact⟨rfl,rfl,rfl,rfl,fun _ _=>rfl,fun cur e fz h=>⟨fz,h⟩⟩
 ·refine⟨rfl,rfl,rfl,by simp,fun c hc=>?_,fun cur e fz h=>?_⟩
  ·simp only[Array.getElem?_modify];rw[if_neg (by omega)]
  ·simp only[Array.getElem?_modify,if_true,h,Option.map_some];exact⟨_,rfl⟩
end
abbrev qV(w:World)(v:Value)(xs:List Int)(e:Ending)(w':World):Prop:=e=.returned (.string ⟨(strOf xs).toArray⟩)/\w'.os=w.os/\w'.tape=w.tape/\w'.output=w.output/\w.heap.size<=w'.heap.size/\
   (∀c,c<w.heap.size->bQ v≠some c->w'.heap[c]? =w.heap[c]?)/\∀c cur e fz,bQ v=some c->w.heap[c]? =some (.cells cur e fz)->∃fz',w'.heap[c]? =some (.cells cur e fz')
set_option maxHeartbeats 2000000 in
theorem arc(b:Nat)(p:Value)(T:TypeId)(w:World)(hbk:w.heap[b]? =some (.cells #[p,.slice none 0 0] T (0,0))):
  Calls O 65 #[.pointer (some ⟨b,0,none⟩)] w (qV w (.slice none 0 0) []):=by
 have hUS:∀W q,(Builtin.unsafeString_ #[144,3] 9 #[.pointer q,.int .i64 0]).run O W=.ok (.string .empty) W:=fun W q=>Lib.run_unsafeString_none W _ _ _ q
 have c1:w.drew.cell? ⟨b,1,none⟩=some (.slice none 0 0):=by
  have:w.drew.heap[b]? =some (.cells #[p,.slice none 0 0] T (0,0)):=hbk;rw[Lib.cell_of_heap this];rfl
 have mixed:O.follows .mixedOrders=true:=by kernel_rfl
 have hSD:(Builtin.unsafeSliceData_ #[52] 144 #[.slice none 0 0]).run O w.drew=.ok (.pointer none) w.drew:=rfl;go_enter Tryz.func65,Tryz.ntmps65
 go_wp2
 go_region_o
 all_goals(go_wp2;go_ret;exact⟨rfl,rfl,rfl,rfl,Nat.le_refl _,fun _ _ _=>rfl,fun c cur e fz h=>by cases h⟩)
set_option maxHeartbeats 2000000 in
theorem alw(b g:Nat)(p:Value)(T:TypeId)(cur:Array Value)(w:World)(hbk:w.heap[b]? =some (.cells #[p,.slice (some ⟨g,0,none⟩) 0 0] T (0,0)))(fz:Nat×Nat)(hg:w.heap[g]? =some (.cells cur 5 fz)):
  Calls O 65 #[.pointer (some ⟨b,0,none⟩)] w (qV w (.slice (some ⟨g,0,none⟩) 0 0) []):=by
 have hUS:∀W q,(Builtin.unsafeString_ #[144,3] 9 #[.pointer q,.int .i64 0]).run O W=.ok (.string .empty) W:=fun W q=>Lib.run_unsafeString_none W _ _ _ q
 have hlt:b<w.heap.size:=(Array.getElem?_eq_some_iff.1 hbk).1;have c1:w.drew.cell? ⟨b,1,none⟩=some (.slice (some ⟨g,0,none⟩) 0 0):=by
  have:w.drew.heap[b]? =some (.cells #[p,.slice (some ⟨g,0,none⟩) 0 0] T (0,0)):=hbk;rw[Lib.cell_of_heap this];rfl
 have mixed:O.follows .mixedOrders=true:=by kernel_rfl
 have t144:O.underlying 144=some (.pointer 5):=by kernel_rfl
 have hSD:(Builtin.unsafeSliceData_ #[52] 144 #[.slice (some ⟨g,0,none⟩) 0 0]).run O w.drew=.ok (.pointer (some ⟨w.drew.heap.size,0,none⟩)) (w.drew.alloc (.view ⟨g,0,none⟩ 5)):=
  Lib.run_unsafeSliceData_zero w.drew _ _ 5 t144 ⟨g,0,none⟩ 0 (5,cur.size) (by have hg':w.drew.heap[g]? =some (.cells cur 5 fz):=hg;simp[World.shape?,hg'])
 have c2:(w.drew.alloc (.view ⟨g,0,none⟩ 5)).cell? ⟨b,1,none⟩=some (.slice (some ⟨g,0,none⟩) 0 0):=by
  have:(w.drew.alloc (.view ⟨g,0,none⟩ 5)).heap[b]? =_:=(Lib.alloc_old w.drew _ b hlt).trans hbk;rw[Lib.cell_of_heap this];rfl
 have c3:(w.alloc (.view ⟨g,0,none⟩ 5)).drew.cell? ⟨b,1,none⟩=some (.slice (some ⟨g,0,none⟩) 0 0):=c2;have c0:w.cell? ⟨b,1,none⟩=some (.slice (some ⟨g,0,none⟩) 0 0):=c1;have fin:qV w (.slice (some ⟨g,0,none⟩) 0 0) [] (.returned (.string .empty)) (w.drew.alloc (.view ⟨g,0,none⟩ 5)):=by
  refine⟨rfl,rfl,rfl,rfl,by simp,fun c hc _=>Lib.alloc_old w.drew _ c hc,fun c cur' e fz' h h2=>?_⟩
  cases h;exact⟨fz',(Lib.alloc_old w.drew _ g (Array.getElem?_eq_some_iff.1 hg).1).trans h2⟩
 go_enter Tryz.func65,Tryz.ntmps65
 go_wp2
 go_region_o
 all_goals(go_wp2;go_ret;exact fin)
set_option maxHeartbeats 2000000 in
theorem apq(b g cap:Nat)(p:Value)(T:TypeId)(w:World)(hc0:cap≠0)(hbk:w.heap[b]? =some (.cells #[p,.slice (some ⟨g,0,none⟩) 0 cap] T (0,0))):
  Calls O 65 #[.pointer (some ⟨b,0,none⟩)] w (qV w (.slice (some ⟨g,0,none⟩) 0 cap) []):=by
 have hUS:∀W q,(Builtin.unsafeString_ #[144,3] 9 #[.pointer q,.int .i64 0]).run O W=.ok (.string .empty) W:=fun W q=>Lib.run_unsafeString_none W _ _ _ q
 have c1:w.drew.cell? ⟨b,1,none⟩=some (.slice (some ⟨g,0,none⟩) 0 cap):=by
  have:w.drew.heap[b]? =some (.cells #[p,.slice (some ⟨g,0,none⟩) 0 cap] T (0,0)):=hbk;rw[Lib.cell_of_heap this];rfl
 have mixed:O.follows .mixedOrders=true:=by kernel_rfl
 have hSD:(Builtin.unsafeSliceData_ #[52] 144 #[.slice (some ⟨g,0,none⟩) 0 cap]).run O w.drew=.ok (.pointer (some ⟨g,0,none⟩)) w.drew:=
  Lib.run_unsafeSliceData_row _ _ _ _ _ _ hc0
 clear hc0;go_enter Tryz.func65,Tryz.ntmps65
 go_wp2
 go_region_o
 all_goals(go_wp2;go_ret;exact⟨rfl,rfl,rfl,rfl,Nat.le_refl _,fun _ _ _=>rfl,fun c cur e fz h h2=>⟨fz,h2⟩⟩)
set_option maxHeartbeats 2000000 in
theorem arb(b g cap:Nat)(p:Value)(T:TypeId)(cur:Array Value)(fz:Nat×Nat)(xs:List Int)(w:World)(h0:xs≠[])(hbk:w.heap[b]? =some (.cells #[p,.slice (some ⟨g,0,none⟩) xs.length cap] T (0,0)))
  (hg:w.heap[g]? =some (.cells cur 5 fz)) (hnc:xs.length<=cap) (hcm:cap<=maxLen) (hcs:cur.size=cap) (htk:cur.toList.take xs.length=xs.map (Value.int .u8)):
  Calls O 65 #[.pointer (some ⟨b,0,none⟩)] w (qV w (.slice (some ⟨g,0,none⟩) xs.length cap) xs):=by
 have hl0:xs.length≠0:=by simpa using h0
 have c1:w.drew.cell? ⟨b,1,none⟩=some (.slice (some ⟨g,0,none⟩) xs.length cap):=by
  have:w.drew.heap[b]? =some (.cells #[p,.slice (some ⟨g,0,none⟩) xs.length cap] T (0,0)):=hbk;rw[Lib.cell_of_heap this];rfl
 have mixed:O.follows .mixedOrders=true:=by kernel_rfl
 have t144:O.underlying 144=some (.pointer 5):=by kernel_rfl
 have hg':w.drew.heap[g]? =some (.cells cur 5 fz):=hg;have hSD:(Builtin.unsafeSliceData_ #[52] 144 #[.slice (some ⟨g,0,none⟩) xs.length cap]).run O w.drew=.ok (.pointer (some ⟨g,0,none⟩)) w.drew:=
  Lib.run_unsafeSliceData_row _ _ _ _ _ _ (by omega)
 have hUS:(Builtin.unsafeString_ #[144,3] 9 #[.pointer (some ⟨g,0,none⟩),.int .i64 xs.length]).run O w.drew=.ok (.string ⟨(strOf xs).toArray⟩) (w.drew.freeze ⟨g,0,none⟩ xs.length):=by
  refine ad8 w.drew 144 3 9 5 t144 (by kernel_rfl) g cur.size (by simp[World.shape?,hg']) xs h0 (by omega) (by unfold maxLen at hcm;omega) ?_
  intro j x hx;rw[gW,Nat.zero_add,cell_of_row w.drew g j cur 5 fz hg'];have hj:j<xs.length:=(List.getElem?_eq_some_iff.1 hx).1;have:=congrArg (fun l=>l[j]?) htk
  simp only[List.getElem?_take,List.getElem?_map,hx,Option.map_some,hj,if_true] at this;simpa using this
 have fin:qV w (.slice (some ⟨g,0,none⟩) xs.length cap) xs (.returned (.string ⟨(strOf xs).toArray⟩)) (w.drew.freeze ⟨g,0,none⟩ xs.length):=by
  obtain⟨f1,f2,f3,f4,f5,f6⟩:=agc w.drew ⟨g,0,none⟩ xs.length;refine⟨rfl,f1,f2,f3,Nat.le_of_eq f4.symm,fun c _ hc=>f5 c fun e=>hc (by rw[e];rfl),fun c cur' e fz' h h2=>?_⟩
  cases h;exact f6 cur' e fz' h2
 clear htk hg' hg hcs hcm hnc hl0 h0;go_enter Tryz.func65,Tryz.ntmps65
 go_wp2
 go_region_o
 all_goals(go_wp2;go_ret;exact fin)
theorem atN:CY O 65:=by
 intro b p v T xs w hb hrow;refine .inl ⟨enters_of Tryz.func65 (by kernel_rfl) rfl _ _,?_⟩
 have key:Calls O 65 #[.pointer (some ⟨b,0,none⟩)] w (qV w v xs):=by
  rcases hrow.2 with⟨rfl,h0⟩|⟨g,cap,cur,fz,rfl,hu,hg,hnc,hcm,hcs,htk⟩
  ·have:xs=[]:=List.eq_nil_of_length_eq_zero h0;subst this;exact arc b p T w hb
  ·by_cases h0:xs=[]
   ·subst h0;by_cases hc:cap=0
    ·subst hc;exact alw b g p T cur w hb fz hg
    ·exact apq b g cap p T w hc hb
   ·exact arb b g cap p T cur fz xs w h0 hb hg hnc hcm (by simpa using hcs) (by simpa using htk)
 refine key.mono fun e w' h=>?_
 obtain⟨rfl,h⟩:=h;exact⟨rfl,h⟩
theorem ayw:Dw 0 .u32 iJ:=ak8 (by simp[k4]) fun w h=>h.1
theorem aBk:WZ O ad:=⟨alP (SD (by kernel_rfl)),by kernel_rfl,fun p h=>by
 simp only[ad,List.mem_cons,List.not_mem_nil,or_false] at h;subst h;exact asA,fun g h=>by
 simp only[ad,List.mem_cons,List.not_mem_nil,or_false] at h;subst h;exact as3,fun g h=>by
 simp only[ad,List.mem_cons,List.not_mem_nil,or_false] at h;subst h;exact ara,fun g h=>by
 simp only[ad,List.mem_cons,List.not_mem_nil,or_false] at h;subst h;exact atN,fun p h=>by
 simp only[ad,List.mem_cons,List.not_mem_nil,or_false] at h;subst h;exact ayw⟩
theorem aV{L:a_}(h:DD O L):aR O (aX ad L):=anD aBk h
theorem g0:aR O (aX ad []):=aV ⟨⟩
abbrev Tg:Shape:=⟨[ak 0,ag 1],[],53⟩
abbrev SX:List aP:=[(.norm,⟨[ak 0,ag 1,ap 24],[],53⟩)]
noncomputable def Bn(y:Tg.J):Option (aC SX):=
 bif(!(y.1.1==([]:B))) then
 bif(!(decide ((y.1.1.length:Int)>(9:Int)))) then
 bif(decide ((y.1.1.length:Int)>(1:Int))) then
(aO y.1.1 (0:Int)).bind fun a=>
 some ((y.1.1,y.1.2.1,((a.toNat:Int)==(48:Int)),()),())
else
 some ((y.1.1,y.1.2.1,false,()),())
else
 some ((y.1.1,y.1.2.1,true,()),())
else
 some ((y.1.1,y.1.2.1,true,()),())
theorem amW:aT O (an (codeOf Tryz.f115) 1 12) (aU Tg SX Bn):=ce g0 (by kernel_rfl) ae fun y=>by kernel_rfl
abbrev PC:Shape:=⟨[ak 0,ag 1,ag 6,ag 7,ag 26,ag 27],[],53⟩
abbrev Pv:List aP:=[(.norm,⟨[ak 0,ag 1,ag 6,ag 7,ag 26,ag 27,ap 39],[],53⟩)]
noncomputable def yM(y:PC.J):Option (aC Pv):=
(aO y.1.1 y.1.2.2.2.1).bind fun a=>
 bif(!(decide ((a.toNat:Int)<(48:Int)))) then
(aO y.1.1 y.1.2.2.2.1).bind fun b=>
 some ((y.1.1,y.1.2.1,y.1.2.2.1,y.1.2.2.2.1,y.1.2.2.2.2.1,y.1.2.2.2.2.2.1,(decide ((b.toNat:Int)>(57:Int))),()),())
else
 some ((y.1.1,y.1.2.1,y.1.2.2.1,y.1.2.2.2.1,y.1.2.2.2.2.1,y.1.2.2.2.2.2.1,true,()),())
theorem agT:aT O (an (c4 (an (codeOf Tryz.f115) 1 122)) 244 31332) (aU PC Pv yM):=ce g0 (by kernel_rfl) ae fun y=>by kernel_rfl
abbrev zI:Shape:=⟨[ak 0,ag 1,ag 6,ag 26,ag 27],[],53⟩
abbrev GC:List aP:=[(.ret,⟨[ag 4,ap 5],[],53⟩),(.exit 0,⟨[ag 1,ag 6],[],53⟩)]
noncomputable def qG(y:zI.J):bG zI GC:=
 bif(decide (y.1.2.2.2.2.1<y.1.2.2.2.1)) then
(yM ((y.1.1,y.1.2.1,y.1.2.2.1,y.1.2.2.2.2.1,y.1.2.2.2.1,y.1.2.2.2.2.1,()),())).bind fun a=>
 bif a.1.2.2.2.2.2.2.1 then
 some (.inr (.inl (((0:Int),false,()),())))
else
(aO a.1.1 a.1.2.2.2.1).bind fun b=>
 some (.inl ((a.1.1,a.1.2.1,(IntKind.i64.wrap ((IntKind.i64.wrap (a.1.2.2.1*(10:Int)))+(IntKind.i64.wrap (IntKind.u8.wrap ((b.toNat:Int)-(48:Int)))))),a.1.2.2.2.2.1,(IntKind.i64.wrap (a.1.2.2.2.2.2.1+(1:Int))),()),()))
else
 some (.inr (.inr ((y.1.2.1,y.1.2.2.1,()),())))
noncomputable def sK:zI.J->Option (aC GC):=bu qG
theorem akG:aT O (an (codeOf Tryz.f115) 1 122) (aU zI GC sK):=bI g0 (by kernel_rfl) (a8 agT ae) fun y=>by kernel_rfl
abbrev i115:Shape:=⟨[ak 0,ag 1],[],53⟩
abbrev Y4:Shape:=⟨[ag 4,ap 5],[],53⟩
noncomputable def f115(a:i115.J):Option Y4.J:=
(Bn ((a.1.1,a.1.2.1,()),())).bind fun b=>
 bif b.1.2.2.1 then
 some (((0:Int),false,()),())
else
(sK ((b.1.1,b.1.2.1,(0:Int),(b.1.1.length:Int),(0:Int),()),())).bind fun c=>
(match c with
|.inl d=>
 some ((d.1.1,d.1.2.1,()),())
|.inr e=>
 bif(decide (e.1.2.1>e.1.1)) then
 some (((0:Int),false,()),())
else
 some ((e.1.2.1,true,()),()))
noncomputable def Dt:aD:=aH ad Tryz.f115 i115 Y4 [] f115
theorem Kv:aB O 115 Dt:=aK g0 Tryz.func115 (by kernel_rfl) (a8 amW (a8 akG ae)) (fun y=>by kernel_rfl) fun a=>by kernel_rfl
abbrev RP:Shape:=⟨[ak 0,ag 3,ag 4],[],47⟩
abbrev Rv:List aP:=[(.norm,⟨[ak 0,ag 3,ag 4,ap 24],[],47⟩)]
noncomputable def G9(y:RP.J):Option (aC Rv):=
(aO y.1.1 y.1.2.2.1).bind fun a=>
 bif(!(decide ((a.toNat:Int)<(48:Int)))) then
(aO y.1.1 y.1.2.2.1).bind fun b=>
 bif(!(decide ((b.toNat:Int)>(57:Int)))) then
 some ((y.1.1,y.1.2.1,y.1.2.2.1,(decide (y.1.2.2.1>=(6:Int))),()),())
else
 some ((y.1.1,y.1.2.1,y.1.2.2.1,true,()),())
else
 some ((y.1.1,y.1.2.1,y.1.2.2.1,true,()),())
theorem akb:aT O (an (c4 (an (codeOf Tryz.f74) 1 58)) 116 3728) (aU RP Rv G9):=ce g0 (by kernel_rfl) ae fun y=>by kernel_rfl
abbrev BQ:Shape:=⟨[ak 0,ag 3,ag 4],[],47⟩
abbrev Jh:List aP:=[(.ret,⟨[ag 2],[],47⟩),(.exit 0,⟨[ak 0,ag 3],[],47⟩)]
noncomputable def Cf(y:BQ.J):bG BQ Jh:=
 bif(decide (y.1.2.2.1<(y.1.1.length:Int))) then
(G9 ((y.1.1,y.1.2.1,y.1.2.2.1,()),())).bind fun a=>
 bif a.1.2.2.2.1 then
 some (.inr (.inl ((((-1):Int),()),())))
else
(aO a.1.1 a.1.2.2.1).bind fun b=>
 some (.inl ((a.1.1,(IntKind.i64.wrap ((IntKind.i64.wrap (a.1.2.1*(10:Int)))+(IntKind.i64.wrap (IntKind.u8.wrap ((b.toNat:Int)-(48:Int)))))),(IntKind.i64.wrap (a.1.2.2.1+(1:Int))),()),()))
else
 some (.inr (.inr ((y.1.1,y.1.2.1,()),())))
noncomputable def JG:BQ.J->Option (aC Jh):=bu Cf
theorem aoC:aT O (an (codeOf Tryz.f74) 1 58) (aU BQ Jh JG):=bI g0 (by kernel_rfl) (a8 akb ae) fun y=>by kernel_rfl
abbrev Uz:Shape:=⟨[ak 0,ag 3],[],47⟩
abbrev Um:List aP:=[(.norm,⟨[ag 3,ap 45],[],47⟩)]
noncomputable def JQ(y:Uz.J):Option (aC Um):=
 bif(!((y.1.1.length:Int)==(0:Int))) then
 bif(decide ((y.1.1.length:Int)>(1:Int))) then
(aO y.1.1 (0:Int)).bind fun a=>
 some ((y.1.2.1,((a.toNat:Int)==(48:Int)),()),())
else
 some ((y.1.2.1,false,()),())
else
 some ((y.1.2.1,true,()),())
theorem aoB:aT O (an (codeOf Tryz.f74) 1 60) (aU Uz Um JQ):=ce g0 (by kernel_rfl) ae fun y=>by kernel_rfl
abbrev i74:Shape:=⟨[ak 0],[],47⟩
abbrev abd:Shape:=⟨[ag 2],[],47⟩
noncomputable def f74(a:i74.J):Option abd.J:=
(JG ((a.1.1,(0:Int),(0:Int),()),())).bind fun b=>
(match b with
|.inl c=>
 some ((c.1.1,()),())
|.inr d=>
(JQ ((d.1.1,d.1.2.1,()),())).bind fun e=>
 bif e.1.2.1 then
 some ((((-1):Int),()),())
else
 some ((e.1.1,()),()))
noncomputable def Ei:aD:=aH ad Tryz.f74 i74 abd [] f74
theorem LW:aB O 74 Ei:=aK g0 Tryz.func74 (by kernel_rfl) (a8 aoC (a8 aoB ae)) (fun y=>by kernel_rfl) fun a=>by kernel_rfl
abbrev i75:Shape:=⟨[ag 0,ag 1,ag 2],[],15⟩
abbrev abc:Shape:=⟨[ap 6],[],15⟩
noncomputable def f75(a:i75.J):Option abc.J:=
 bif(decide (a.1.1>=a.1.2.1)) then
 some (((decide (a.1.1<=a.1.2.2.1)),()),())
else
 some ((false,()),())
noncomputable def oS:aD:=aH ad Tryz.f75 i75 abc [] f75
theorem z75:aB O 75 oS:=aK g0 Tryz.func75 (by kernel_rfl) ae (fun y=>by kernel_rfl) fun a=>by kernel_rfl
noncomputable abbrev azi:a_:=[(75,oS)]
theorem Ep:aR O (aX ad azi):=aV ⟨z75,⟨⟩⟩
abbrev S3:Shape:=⟨[ak 0,ag 3],[],42⟩
abbrev SH:List aP:=[(.norm,⟨[ak 0,ag 3,ap 4],[],42⟩)]
noncomputable def IR(y:S3.J):Option (aC SH):=
(aO y.1.1 y.1.2.1).bind fun a=>
 bif(decide ((a.toNat:Int)>=(97:Int))) then
(aO y.1.1 y.1.2.1).bind fun b=>
 some ((y.1.1,y.1.2.1,(decide ((b.toNat:Int)<=(122:Int))),()),())
else
 some ((y.1.1,y.1.2.1,false,()),())
theorem alY:aT O (an (c4 (an (codeOf Tryz.f87) 1 26)) 52 840) (aU S3 SH IR):=ce Ep (by kernel_rfl) ae fun y=>by kernel_rfl
abbrev RN:Shape:=⟨[ak 0,ag 3,ap 4],[],42⟩
abbrev Rt:List aP:=[(.norm,⟨[ak 0,ag 3,ap 38],[],42⟩)]
noncomputable def G8(y:RN.J):Option (aC Rt):=
 bif(!y.1.2.2.1) then
 bif(!(y.1.2.1==(0:Int))) then
(aO y.1.1 y.1.2.1).bind fun a=>
 bif(!(decide ((a.toNat:Int)<(48:Int)))) then
(aO y.1.1 y.1.2.1).bind fun b=>
 some ((y.1.1,y.1.2.1,(decide ((b.toNat:Int)>(57:Int))),()),())
else
 some ((y.1.1,y.1.2.1,true,()),())
else
 some ((y.1.1,y.1.2.1,true,()),())
else
 some ((y.1.1,y.1.2.1,false,()),())
theorem aj9:aT O (an (c4 (an (codeOf Tryz.f87) 1 26)) 52 1682) (aU RN Rt G8):=ce Ep (by kernel_rfl) ae fun y=>by kernel_rfl
abbrev BP:Shape:=⟨[ak 0,ag 3],[],42⟩
abbrev Jg:List aP:=[(.ret,⟨[ap 2],[],42⟩),(.exit 0,⟨[ak 0],[],42⟩)]
noncomputable def Ce(y:BP.J):bG BP Jg:=
 bif(decide (y.1.2.1<(y.1.1.length:Int))) then
(IR ((y.1.1,y.1.2.1,()),())).bind fun a=>
(G8 ((a.1.1,a.1.2.1,a.1.2.2.1,()),())).bind fun b=>
 bif b.1.2.2.1 then
 some (.inr (.inl ((false,()),())))
else
 some (.inl ((b.1.1,(IntKind.i64.wrap (b.1.2.1+(1:Int))),()),()))
else
 some (.inr (.inr ((y.1.1,()),())))
noncomputable def JF:BP.J->Option (aC Jg):=bu Ce
theorem aoz:aT O (an (codeOf Tryz.f87) 1 26) (aU BP Jg JF):=bI Ep (by kernel_rfl) (a8 alY (a8 aj9 ae)) fun y=>by kernel_rfl
abbrev i87:Shape:=⟨[ak 0],[],42⟩
abbrev aa7:Shape:=⟨[ap 2],[],42⟩
noncomputable def f87(a:i87.J):Option aa7.J:=
(JF ((a.1.1,(0:Int),()),())).bind fun b=>
(match b with
|.inl c=>
 some ((c.1.1,()),())
|.inr d=>
(f75 (((d.1.1.length:Int),(1:Int),(10:Int),()),())).bind fun e=>
 some ((e.1.1,()),()))
noncomputable def Ng:aD:=aH ad Tryz.f87 i87 aa7 [] f87
theorem z87:aB O 87 Ng:=aK Ep Tryz.func87 (by kernel_rfl) (a8 aoz ae) (fun y=>by kernel_rfl) fun a=>by kernel_rfl
abbrev Ux:Shape:=⟨[ak 0],[],49⟩
abbrev Uk:List aP:=[(.norm,⟨[ak 0,ap 20],[],49⟩)]
noncomputable def JP(y:Ux.J):Option (aC Uk):=
 bif(!(y.1.1==([]:B))) then
 bif(!(decide ((y.1.1.length:Int)>(10:Int)))) then
(aO y.1.1 (0:Int)).bind fun a=>
 bif(!(decide ((a.toNat:Int)<(97:Int)))) then
(aO y.1.1 (0:Int)).bind fun b=>
 some ((y.1.1,(decide ((b.toNat:Int)>(122:Int))),()),())
else
 some ((y.1.1,true,()),())
else
 some ((y.1.1,true,()),())
else
 some ((y.1.1,true,()),())
theorem aot:aT O (an (codeOf Tryz.f99) 1 12) (aU Ux Uk JP):=ce g0 (by kernel_rfl) ae fun y=>by kernel_rfl
abbrev RM:Shape:=⟨[ak 0,ag 3,ag 22,ag 23],[],49⟩
abbrev Rs:List aP:=[(.norm,⟨[ak 0,ag 22,ag 23,ap 47],[],49⟩)]
noncomputable def G7(y:RM.J):Option (aC Rs):=
(aO y.1.1 y.1.2.1).bind fun a=>
 bif(!(decide ((a.toNat:Int)<(97:Int)))) then
(aO y.1.1 y.1.2.1).bind fun b=>
 bif(decide ((b.toNat:Int)>(122:Int))) then
(aO y.1.1 y.1.2.1).bind fun c=>
 bif(!(decide ((c.toNat:Int)<(48:Int)))) then
(aO y.1.1 y.1.2.1).bind fun d=>
 some ((y.1.1,y.1.2.2.1,y.1.2.2.2.1,(decide ((d.toNat:Int)>(57:Int))),()),())
else
 some ((y.1.1,y.1.2.2.1,y.1.2.2.2.1,true,()),())
else
 some ((y.1.1,y.1.2.2.1,y.1.2.2.2.1,false,()),())
else
(aO y.1.1 y.1.2.1).bind fun e=>
 bif(!(decide ((e.toNat:Int)<(48:Int)))) then
(aO y.1.1 y.1.2.1).bind fun f=>
 some ((y.1.1,y.1.2.2.1,y.1.2.2.2.1,(decide ((f.toNat:Int)>(57:Int))),()),())
else
 some ((y.1.1,y.1.2.2.1,y.1.2.2.2.1,true,()),())
theorem aj8:aT O (an (c4 (an (codeOf Tryz.f99) 1 58)) 116 7474) (aU RM Rs G7):=ce g0 (by kernel_rfl) ae fun y=>by kernel_rfl
abbrev BJ:Shape:=⟨[ak 0,ag 22,ag 23],[],49⟩
abbrev Jb:List aP:=[(.ret,⟨[ap 2],[],49⟩),(.exit 0,⟨[],[],49⟩)]
noncomputable def B_(y:BJ.J):bG BJ Jb:=
 bif(decide (y.1.2.2.1<y.1.2.1)) then
(G7 ((y.1.1,y.1.2.2.1,y.1.2.1,y.1.2.2.1,()),())).bind fun a=>
 bif a.1.2.2.2.1 then
 some (.inr (.inl ((false,()),())))
else
 some (.inl ((a.1.1,a.1.2.1,(IntKind.i64.wrap (a.1.2.2.1+(1:Int))),()),()))
else
 some (.inr (.inr ((),())))
noncomputable def Jz:BJ.J->Option (aC Jb):=bu B_
theorem aos:aT O (an (codeOf Tryz.f99) 1 58) (aU BJ Jb Jz):=bI g0 (by kernel_rfl) (a8 aj8 ae) fun y=>by kernel_rfl
abbrev i99:Shape:=⟨[ak 0],[],49⟩
abbrev aa1:Shape:=⟨[ap 2],[],49⟩
noncomputable def f99(a:i99.J):Option aa1.J:=
(JP ((a.1.1,()),())).bind fun b=>
 bif b.1.2.1 then
 some ((false,()),())
else
(Jz ((b.1.1,(b.1.1.length:Int),(0:Int),()),())).bind fun c=>
(match c with
|.inl d=>
 some ((d.1.1,()),())
|.inr e=>
 some ((true,()),()))
noncomputable def Nd:aD:=aH ad Tryz.f99 i99 aa1 [] f99
theorem aaH:aB O 99 Nd:=aK g0 Tryz.func99 (by kernel_rfl) (a8 aot (a8 aos ae)) (fun y=>by kernel_rfl) fun a=>by kernel_rfl
def iW(b:UInt8):Bool:=decide ((97:Int)<=(b.toNat:Int))&&decide ((b.toNat:Int)<=122)
def cP(b:UInt8):Bool:=decide ((48:Int)<=(b.toNat:Int))&&decide ((b.toNat:Int)<=57)
def within(n cX hi:Int):Bool:=decide (cX<=n)&&decide (n<=hi)
theorem og(a):f75 a=some ((within a.1.1 a.1.2.1 a.1.2.2.1,()),()):=by
 simp only[f75,within,ge_iff_le];cases decide (a.1.2.1<=a.1.1)<;>rfl
def iD(s:B):Bool:=allI (fun i x=>iW x||(!(i==0)&&cP x)) 0 s&&within s.length 1 10
theorem Rj(a)(hs:au a.1.1.length):f87 a=some ((iD a.1.1,()),()):=by
 obtain⟨⟨s,u⟩,bV⟩:=a;have key:JF ((s,((0:Int),())),())=some (bif allI (fun i x=>iW x||(!(i==0)&&cP x)) 0 s then .inr ((s,()),()) else .inl ((false,()),())):=by
  refine fX Ce s (fun i=>((s,((i:Int),())),())) _ _ _ (fun i x hx=>?_) ?_
  ·have hi:=cU hx;have hw:au i:=by unfold au at*;simp only at hs;omega
   simp only[Ce,cf hi,cond_true,IR,G8,b5,hx,Option.bind_some,bX hw,ge_iff_le,ZH];unfold iW cP;by_cases h1:(97:Int)<=(x.toNat:Int)<;>by_cases h2:(x.toNat:Int)<=122<;>cases h3:(i==0)<;>by_cases aA:(48:Int)<=(x.toNat:Int)<;>by_cases bl:(x.toNat:Int)<=57<;>simp[h1,h2,h3,aA,bl,bX hw,b5,hx,ZH,oO,nN,-beq_iff_eq]
  ·simp only[Ce,dx,cond_false]
 simp only[f87,key,Option.bind_some];unfold iD;cases allI (fun i x=>iW x||(!(i==0)&&cP x)) 0 s with
 |false=>rfl
 |true=>simp only[cond_true,og,Option.bind_some,Bool.true_and]
theorem O8(b:UInt8)(r:B):iD (b::r)=(iW b&&(b::r).all (fun x=>iW x||cP x)&&decide (((b::r).length:Int)<=10)):=by
 unfold iD;simp only[allI,List.all_cons];have:allI (fun i x=>iW x||(!(i==0)&&cP x)) (0+1) r=r.all (fun x=>iW x||cP x):=by
  have hz:∀(i:Nat) (x:UInt8),1<=i->x∈r->(iW x||(!(i==0)&&cP x))=(iW x||cP x):=by
   intro i x hi _;have:(i==0)=false:=by simp;omega
   rw[this];simp
  rw[PV (mB:=fun _ x=>iW x||cP x) r 1 hz,gT]
 rw[this];unfold within;have:decide ((1:Int)<=((b::r).length:Int))=true:=by simp only[List.length_cons,decide_eq_true_eq];omega
 rw[this];cases iW b<;>simp
theorem OC(a)(hs:au a.1.1.length):f99 a=some ((iD a.1.1,()),()):=by
 obtain⟨⟨s,u⟩,bV⟩:=a;have key:Jz ((s,((s.length:Int),((0:Int),()))),())=some (bif allI (fun _ x=>iW x||cP x) 0 s then .inr ((),()) else .inl ((false,()),())):=by
  refine fX B_ s (fun i=>((s,((s.length:Int),((i:Int),()))),())) _ _ _ (fun i x hx=>?_) ?_
  ·have hi:=cU hx;have hw:au i:=by unfold au at*;simp only at hs;omega
   simp only[B_,cf hi,cond_true,G7,b5,hx,Option.bind_some,bX hw,oO,nN];unfold iW cP;by_cases h1:(97:Int)<=(x.toNat:Int)<;>by_cases h2:(x.toNat:Int)<=122<;>by_cases aA:(48:Int)<=(x.toNat:Int)<;>by_cases bl:(x.toNat:Int)<=57<;>simp[h1,h2,aA,bl,bX hw,b5,hx,oO,nN]
  ·simp only[B_,dx,cond_false]
 rw[gT] at key;cases s with
 |nil=>rfl
 |cons b r=>
  have hb:aO (b::r) 0=some b:=rfl;simp only[f99,JP,hb,Option.bind_some,oO,nN,O8];have he:((b::r)==([]:B))=false:=rfl;have hl:iW b=(decide ((97:Int)<=(b.toNat:Int))&&decide ((b.toNat:Int)<=122)):=rfl;rw[he,hl];by_cases h1:(97:Int)<=(b.toNat:Int)<;>by_cases h2:(b.toNat:Int)<=122<;>by_cases h3:((b::r).length:Int)<=10<;>
   simp only[h1,h2,h3,decide_true,decide_false,Bool.not_true,Bool.not_false,cond_true,cond_false,Option.bind_some,Bool.true_and,Bool.and_true,Bool.false_and,Bool.and_false]
  rw[key];generalize List.all (b::r) (fun x=>iW x||cP x)=q
  cases q<;>rfl
def ef(n:Int)(b:UInt8):Int:=n*10+((b.toNat:Int)-48)
def de(s:B):Int:=s.foldl ef 0
def ik:B->Bool
 |b::_::_=>(b.toNat:Int)==48
 |_=>false
def fA(s:B):Bool:=s.all cP&&!(s==[])&&!ik s&&decide (s.length<=6)&&decide (de s<=999)
theorem iP{b:UInt8}(h:cP b=true):48<=(b.toNat:Int)/\(b.toNat:Int)<=57:=by
 simpa[cP] using h
theorem aob{b:UInt8}(h:cP b=true):IntKind.u8.wrap ((b.toNat:Int)-48)=(b.toNat:Int)-48:=by
 have:=iP h;rw[IntKind.wrap_u8];omega
theorem E1{n:Int}{b:UInt8}{i:Nat}(h:cP b=true)(h0:0<=n)(h1:n<10^i):0<=ef n b/\ef n b<10^(i+1):=by
 have:=iP h;unfold ef;rw[Int.pow_succ];omega
theorem am2{i:Nat}(h:i<=9):(10:Int)^i<=1000000000:=by
 have:i=0\/i=1\/i=2\/i=3\/i=4\/i=5\/i=6\/i=7\/i=8\/i=9:=by omega
 rcases this with rfl|rfl|rfl|rfl|rfl|rfl|rfl|rfl|rfl|rfl<;>decide
theorem FI{n:Int}{b:UInt8}{i:Nat}(h:cP b=true)(hi:i<=8)(h0:0<=n)(h1:n<10^i):
  IntKind.i64.wrap (IntKind.i64.wrap (n*10)+IntKind.i64.wrap (IntKind.u8.wrap ((b.toNat:Int)-48)))=ef n b:=by
 have Z:=iP h;have hp:=am2 (show i<=9 by omega)
 rw[aob h,cT (n:=n*10) (by omega) (by omega),cT (n:=(b.toNat:Int)-48) (by omega) (by omega),cT (by omega) (by omega)]
 rfl
theorem Ho(a)(hs:au a.1.1.length):f74 a=some ((bif a.1.1.all cP&&decide (a.1.1.length<=6)&&!(a.1.1==[])&&!ik a.1.1 then de a.1.1 else-1,()),()):=by
 obtain⟨⟨s,u⟩,bV⟩:=a;have key:JG ((s,((0:Int),((0:Int),()))),())=some (bif allI (fun i x=>cP x&&decide (i<6)) 0 s then .inr ((s,(de s,())),()) else .inl ((((-1):Int),()),())):=by
  have:=l_ Cf s (fun i n=>((s,(n,((i:Int),()))),())) (fun i x n=>some (bif cP x&&decide (i<6) then .inl (ef n x) else .inr (.inl ((((-1):Int),()),())))) (fun n=>.inr ((s,(n,())),()))
   (fun i n=>0<=n/\n<10^i/\(i<=6)) (0:Int) ⟨by decide,by decide,by decide⟩ (fun i x n hx dr=>?_) (fun n _=>?_)
  ·exact this.trans (by rw[yz];rfl)
  ·have hi:=cU hx;have hw:au i:=by unfold au at*;simp only at hs;omega
   obtain⟨h0,h1,ca⟩:=dr;refine⟨?_,fun aN aj=>?_⟩
   ·simp only[Cf,cf hi,cond_true,G9,b5,hx,Option.bind_some,bX hw,oO,nN,M6];have atd:decide ((6:Int)<=(i:Int))=!decide (i<6):=by by_cases h:i<6<;>simp[h]<;>omega
    rw[atd];cases Z:cP x with
    |false=>
     unfold cP at Z;by_cases aA:(48:Int)<=(x.toNat:Int)<;>by_cases bl:(x.toNat:Int)<=57<;>simp[aA,bl] at Z ⊢
    |true=>
     obtain⟨aA,bl⟩:=iP Z;cases az:decide (i<6) with
     |false=>simp[aA,bl]
     |true=>
      have az:i<6:=by simpa using az
      have:=FI (i:=i) Z (by omega) h0 h1
      simp only[aA,bl,decide_true,Bool.not_true,Bool.not_false,cond_true,cond_false,Option.bind_some,b5,hx,this,bX hw,Bool.and_true,Option.map_some]
   ·simp only[Option.some.injEq] at aj;cases az:(cP x&&decide (i<6)) with
    |false=>rw[az] at aj;cases aj
    |true=>
     rw[az] at aj;simp only[cond_true,Sum.inl.injEq] at aj;simp only[Bool.and_eq_true,decide_eq_true_eq] at az;subst aj;have:=E1 az.1 h0 h1;exact⟨this.1,this.2,by omega⟩
  ·simp only[Cf,dx,cond_false]
 rw[Hi,gT,anR] at key;simp only[f74,key,Option.bind_some];cases s with
 |nil=>rfl
 |cons b r=>
  have hb:aO (b::r) 0=some b:=rfl;have he:((b::r)==([]:B))=false:=rfl;have hz:(((b::r).length:Int)==0)=false:=by simp only[List.length_cons,beq_eq_false_iff_ne,ne_eq];omega
  have hl:decide (((b::r).length:Int)>1)=!(r==[]):=by cases r<;>simp;omega
  simp only[List.isEmpty_cons,Bool.false_or,Nat.zero_add,he,Bool.not_false,Bool.and_true];cases az:(List.all (b::r) cP&&decide ((b::r).length<=6)) with
  |false=>rfl
  |true=>
   simp only[cond_true,JQ,hz,Bool.not_false,hl,hb,Option.bind_some,Bool.true_and];cases r with
   |nil=>rfl
   |cons c r=>
    have:((c::r)==([]:B))=false:=rfl;rw[this];simp only[Bool.not_false,cond_true,Option.bind_some,ik];cases ((b.toNat:Int)==48)<;>rfl
theorem ahw:∀(r:B) (n:Int) (k:Nat),r.all cP=true->0<=n->10^k<=n->10^(k+r.length)<=r.foldl ef n:=by
 intro r;induction r with
 |nil=>intro n k _ _ h;exact h
 |cons b r ih=>
  intro n k Z h0 h;simp only[List.all_cons,Bool.and_eq_true] at Z;have hb:=iP Z.1;have hs:10^(k+1)<=ef n b:=by unfold ef;rw[Int.pow_succ];omega
  have:=ih (ef n b) (k+1) Z.2 (by unfold ef;omega) hs
  simp only[List.length_cons,List.foldl_cons];rw[show k+(r.length+1)=k+1+r.length by omega]
  exact this
theorem akK{n:Nat}(h:6<=n):(1000000:Int)<=10^n:=by
 induction n with
 |zero=>omega
 |succ n ih=>
  by_cases ca:6<=n
  ·have:=ih ca;rw[Int.pow_succ];omega
  ·have:n=5:=by omega
   subst this;decide
theorem alJ{s:B}(Z:s.all cP=true)(hl:ik s=false)(ic:7<=s.length):999<de s:=by
 match s,ic with
 |b::c::r,ic=>
  simp only[ik,beq_eq_false_iff_ne,ne_eq] at hl;simp only[List.all_cons,Bool.and_eq_true] at Z;have hb:=iP Z.1;have hc:=iP Z.2.1;have hs:(10:Int)^0<=ef 0 b:=by unfold ef;simp;omega
  have:=ahw (c::r) (ef 0 b) 0 (by simp[Z.2.1,Z.2.2]) (by unfold ef;omega) hs
  have h2:(1000000:Int)<=10^(0+(c::r).length):=akK (by simp only[List.length_cons] at ic ⊢;omega)
  show 999<List.foldl ef (ef 0 b) (c::r);omega
theorem ajs(a)(hs:au a.1.1.length)(ib:a.1.2.1=999):f115 a=some ((bif fA a.1.1 then de a.1.1 else 0,(fA a.1.1,())),()):=by
 obtain⟨⟨s,m,u⟩,bV⟩:=a;obtain rfl:m=999:=ib;have key:s.length<=9->sK ((s,((999:Int),((0:Int),((s.length:Int),((0:Int),()))))),())=some (bif allI (fun i x=>cP x) 0 s then .inr (((999:Int),(de s,())),()) else .inl (((0:Int),(false,())),())):=by
  intro ib;have:=l_ qG s (fun i n=>((s,((999:Int),(n,((s.length:Int),((i:Int),()))))),())) (fun i x n=>some (bif cP x then .inl (ef n x) else .inr (.inl (((0:Int),(false,())),())))) (fun n=>.inr (((999:Int),(n,())),()))
   (fun i n=>0<=n/\n<10^i/\(i<=9)) (0:Int) ⟨by decide,by decide,by decide⟩ (fun i x n hx dr=>?_) (fun n _=>?_)
  ·exact this.trans (by rw[yz];rfl)
  ·have hi:=cU hx;have hw:au i:=by unfold au at*;simp only at hs;omega
   obtain⟨h0,h1,ca⟩:=dr;refine⟨?_,fun aN aj=>?_⟩
   ·simp only[qG,cf hi,cond_true,yM,b5,hx,Option.bind_some,bX hw,oO,nN,M6];cases Z:cP x with
    |false=>
     unfold cP at Z;by_cases aA:(48:Int)<=(x.toNat:Int)<;>by_cases bl:(x.toNat:Int)<=57<;>simp[aA,bl] at Z ⊢
    |true=>
     obtain⟨aA,bl⟩:=iP Z;have:=FI (i:=i) Z (by omega) h0 h1
     simp only[aA,bl,decide_true,Bool.not_true,Bool.not_false,cond_true,cond_false,Option.bind_some,b5,hx,this,bX hw,Bool.and_true,Option.map_some]
   ·simp only[Option.some.injEq] at aj;cases az:cP x with
    |false=>rw[az] at aj;cases aj
    |true=>
     rw[az] at aj;simp only[cond_true,Sum.inl.injEq] at aj;subst aj;have:=E1 az h0 h1;exact⟨this.1,this.2,by omega⟩
  ·simp only[qG,dx,cond_false]
 rw[gT] at key;cases s with
 |nil=>rfl
 |cons b r=>
  have hb:aO (b::r) 0=some b:=rfl;have he:((b::r)==([]:B))=false:=rfl;have hl:decide (((b::r).length:Int)>1)=!(r==[]):=by cases r<;>simp;omega
  have ib:decide (((b::r).length:Int)>9)=!decide ((b::r).length<=9):=by by_cases h:(b::r).length<=9<;>simp only[h,decide_true,decide_false,Bool.not_true,Bool.not_false,decide_eq_true_eq,decide_eq_false_iff_not]<;>omega
  have q7:ik (b::r)=(!(r==[])&&(b.toNat:Int)==48):=by cases r<;>rfl
  simp only[f115,Bn,he,hl,ib,Bool.not_false,cond_true,Bool.not_not,hb,Option.bind_some];have fin:(b::r).length<=9->ik (b::r)=false->((sK ((b::r,((999:Int),((0:Int),(((b::r).length:Int),((0:Int),()))))),())).bind fun KD=>match KD with
    |.inl wS=>some ((wS.1.1,(wS.1.2.1,())),())
    |.inr rc=>bif decide (rc.1.2.1>rc.1.1) then some (((0:Int),(false,())),()) else some ((rc.1.2.1,(true,())),()))=
    some ((bif fA (b::r) then de (b::r) else 0,(fA (b::r),())),()):=by
   intro ib j7;rw[key ib];unfold fA;rw[he,j7];cases Z:List.all (b::r) cP with
   |false=>rfl
   |true=>
    simp only[cond_true,Option.bind_some,Bool.not_false,Bool.true_and,nN];by_cases ca:(b::r).length<=6
    ·simp only[ca,decide_true,Bool.true_and];cases decide (de (b::r)<=999)<;>rfl
    ·have:=alJ Z j7 (by omega)
     have:decide (de (b::r)<=999)=false:=by simp only[decide_eq_false_iff_not];omega
     rw[this];simp only[ca,decide_false,Bool.false_and];rfl
  by_cases az:(b::r).length<=9
  ·simp only[az,decide_true,cond_true];cases hr:(r==[]) with
   |true=>
    simp only[Bool.not_true,cond_false,Option.bind_some];exact fin az (by rw[q7,hr];rfl)
   |false=>
    simp only[Bool.not_false,cond_true,Option.bind_some];cases p_:((b.toNat:Int)==48) with
    |true=>
     have:fA (b::r)=false:=by unfold fA;rw[q7,hr,p_];simp
     rw[this];rfl
    |false=>
     simp only[cond_false];exact fin az (by rw[q7,hr,p_];rfl)
  ·have:fA (b::r)=false:=by
    unfold fA;have:decide ((b::r).length<=6)=false:=by simp only[decide_eq_false_iff_not];omega
    rw[this];simp
   simp only[az,decide_false,cond_false,Option.bind_some,cond_true,this]
abbrev Aa:Shape:=⟨[ak 0,(1,.am (.d (.int .u8))),ag 2,ba 7 3000448,ag 8,ag 9],[a' 3000448 .str 7 0],43⟩
abbrev vB:List aP:=[(.exit 0,⟨[ak 0,ba 7 3000448,ag 8],[a' 3000448 .str 7 0],43⟩)]
noncomputable def pg(y:Aa.J):bG Aa vB:=
 bif(decide (y.1.2.2.2.2.2.1<(y.1.1.length:Int))) then
 bif(decide ((y.2.1.length:Int)<y.1.2.2.1)) then
(aO y.1.1 y.1.2.2.2.2.2.1).bind fun a=>
 bif((a.toNat:Int)==y.1.2.1) then
(bm y.1.1 y.1.2.2.2.2.1 y.1.2.2.2.2.2.1).bind fun b=>
(b9 16 y.2.1 ([b]:List B)).bind fun c=>
 some (.inl ((y.1.1,y.1.2.1,y.1.2.2.1,(),(IntKind.i64.wrap (y.1.2.2.2.2.2.1+(1:Int))),(IntKind.i64.wrap (y.1.2.2.2.2.2.1+(1:Int))),()),c,()))
else
 some (.inl ((y.1.1,y.1.2.1,y.1.2.2.1,(),y.1.2.2.2.2.1,(IntKind.i64.wrap (y.1.2.2.2.2.2.1+(1:Int))),()),y.2.1,()))
else
 some (.inr ((y.1.1,(),y.1.2.2.2.2.1,()),y.2.1,()))
else
 some (.inr ((y.1.1,(),y.1.2.2.2.2.1,()),y.2.1,()))
noncomputable def vK:Aa.J->Option (aC vB):=bu pg
theorem al0:aT O (an (codeOf Tryz.f73) 1 122) (aU Aa vB vK):=bI g0 (by kernel_rfl) ae fun y=>by kernel_rfl
abbrev i73:Shape:=⟨[ak 0,(1,.am (.d (.int .u8))),ag 2],[],43⟩
abbrev abe:Shape:=⟨[ba 6 3000384],[a' 3000384 .str 6 0],43⟩
noncomputable def f73(a:i73.J):Option abe.J:=
(vK ((a.1.1,a.1.2.1,a.1.2.2.1,(),(0:Int),(0:Int),()),([]:List B),())).bind fun b=>
(bm b.1.1 b.1.2.2.1 (b.1.1.length:Int)).bind fun c=>
(b9 16 b.2.1 ([c]:List B)).bind fun d=>
 some (((),()),d,())
noncomputable def qd:aD:=aH ad Tryz.f73 i73 abe [] f73
theorem rs:aB O 73 qd:=aK g0 Tryz.func73 (by kernel_rfl) (a8 al0 ae) (fun y=>by kernel_rfl) fun a=>by kernel_rfl
abbrev ci(n:Nat):Prop:=n<=2097152
theorem o9(c:UInt8):∀s,bF c s≠[]:=by
 intro s;induction s with
 |nil=>intro h;cases h
 |cons b r ih=>
  unfold bF;cases b==c with
  |true=>intro h;cases h
  |false=>
   simp only[cond_false];split<;>intro h<;>cases h
def tV(acc:B):List B->List B
 |x::xs=>(acc++x)::xs
 |[]=>[acc]
theorem Sj{L:List B}(h:L≠[]):tV [] L=L:=by
 cases L with
 |nil=>exact absurd rfl h
 |cons x xs=>rfl
theorem nZ(c:UInt8):∀s,(bF c s).length<=s.length+1:=by
 intro s;induction s with
 |nil=>exact Nat.le_refl _
 |cons b r ih=>
  unfold bF;cases b==c with
  |true=>simpa using ih
  |false=>
   simp only[cond_false];split
   ·rename_i x xs h;rw[h] at ih;simp at ih ⊢;omega
   ·simp
theorem qp(c:UInt8):∀s x,x∈bF c s->x.length<=s.length:=by
 intro s;induction s with
 |nil=>intro x h;simp[bF] at h;simp[h]
 |cons b r ih=>
  intro x h;unfold bF at h;cases hb:b==c with
  |true=>
   rw[hb,cond_true] at h;rcases List.mem_cons.1 h with rfl|h
   ·simp
   ·have:=ih x h;simp;omega
  |false=>
   rw[hb,cond_false] at h;split at h
   ·rename_i y bj hy;rcases List.mem_cons.1 h with rfl|h
    ·have:=ih y (by rw[hy];exact List.mem_cons_self);simp;omega
    ·have:=ih x (by rw[hy];exact List.mem_cons_of_mem _ h);simp;omega
   ·simp at h;simp[h]
theorem alq{bq:Type}(c:UInt8)(s:B)(fin:Nat×List B->bq):∀(r:B) (k:Nat) (q:Nat×List B),r=s.drop k->k<=s.length->q.1<=k->
  ∃fB,eV (fun i x (q:Nat×List B)=>some (.inl (bif(x.toNat:Int)==(c.toNat:Int) then(i+1,q.2++[(s.take i).drop q.1]) else q):Sum (Nat×List B) bq)) fin k r q=some (fin fB)/\fB.1<=s.length/\
   fB.2++[s.drop fB.1]=q.2++tV ((s.take k).drop q.1) (bF c r):=by
 intro r;induction r with
 |nil=>
  intro k q hr hk az;have hkl:k=s.length:=by
   have:=congrArg List.length hr;simp at this;omega
  refine⟨q,rfl,by omega,?_⟩
  rw[hkl,List.take_length];simp[bF,tV]
 |cons x r ih=>
  intro k q hr hk az;have hlt:k<s.length:=by
   have:=congrArg List.length hr;simp at this;omega
  have c':r=s.drop (k+1):=by
   have:=congrArg List.tail hr;simpa using this
  have hx:s[k]? =some x:=by
   have:=congrArg (fun l=>l[0]?) hr
   simpa using this.symm
  simp only[eV];cases hc:((x.toNat:Int)==(c.toNat:Int)) with
  |true=>
   have Mm:x=c:=by
    simp only[beq_iff_eq] at hc;exact UInt8.toNat_inj.1 (by omega)
   simp only[cond_true];obtain⟨fB,h1,h2,h3⟩:=ih (k+1) (k+1,q.2++[(s.take k).drop q.1]) c' hlt (Nat.le_refl _);refine⟨fB,h1,h2,h3.trans ?_⟩;have e1:(s.take (k+1)).drop (k+1)=[]:=List.drop_eq_nil_of_le (by rw[List.length_take];omega)
   simp only[e1];rw[Sj (o9 c r)];subst Mm;have:bF x (x::r)=[]::bF x r:=by simp[bF]
   rw[this];simp[tV]
  |false=>
   have Mm:(x==c)=false:=by
    cases h:x==c with
    |false=>rfl
    |true=>rw[eq_of_beq h] at hc;simp at hc
   simp only[cond_false];obtain⟨fB,h1,h2,h3⟩:=ih (k+1) q c' hlt (by omega)
   refine⟨fB,h1,h2,h3.trans ?_⟩;have e1:(s.take (k+1)).drop q.1=(s.take k).drop q.1++[x]:=by
    rw[List.take_add_one,hx];rw[List.drop_append_of_le_length (by rw[List.length_take];omega)]
    rfl
   rw[e1];have:bF c (x::r)=tV [x] (bF c r):=by
    rw[bF,Mm,cond_false];cases h:bF c r with
    |nil=>rfl
    |cons y bj=>rfl
   rw[this];cases h:bF c r with
   |nil=>exact absurd h (o9 c r)
   |cons y bj=>simp[tV]
theorem vz(c:UInt8)(a)(hs:ci a.1.1.length)(hb:a.1.2.1=(c.toNat:Int))(hm:a.1.2.2.1=((a.1.1.length+1:Nat):Int)):f73 a=some (((),()),(bF c a.1.1,())):=by
 obtain⟨⟨s,b,m,u⟩,bV⟩:=a;obtain rfl:b=(c.toNat:Int):=hb;obtain rfl:m=((s.length+1:Nat):Int):=hm;have hs:s.length<=2097152:=hs;have key:=l_ pg s (fun i (q:Nat×List B)=>((s,((c.toNat:Int),(((s.length+1:Nat):Int),((),((q.1:Int),((i:Int),())))))),(q.2,())))
  (fun i x (q:Nat×List B)=>some (.inl (bif(x.toNat:Int)==(c.toNat:Int) then(i+1,q.2++[(s.take i).drop q.1]) else q))) (fun q=>(((s,((),((q.1:Int),()))),(q.2,())):aC vB))
  (fun i q=>q.1<=i/\q.2.length<=i) (0,[]) ⟨Nat.le_refl _,Nat.le_refl _⟩ (fun i x q hx dr=>?_) (fun q dr=>?_)
 ·obtain⟨fB,h1,h2,h3⟩:=alq c s (fun q=>(((s,((),((q.1:Int),()))),(q.2,())):aC vB)) s 0 (0,[]) rfl (Nat.zero_le _) (Nat.le_refl _)
  have key:vK ((s,((c.toNat:Int),(((s.length+1:Nat):Int),((),((0:Int),((0:Int),())))))),(([]:List B),()))=some ((s,((),((fB.1:Int),()))),(fB.2,())):=key.trans h1;simp only[f73,key,Option.bind_some];rw[fw h2];have h3:fB.2++[s.drop fB.1]=bF c s:=by
   rw[h3];simp only[List.take_zero,List.drop_nil,List.nil_append];exact Sj (o9 c s)
  have hl:fB.2.length<=s.length+1:=by
   have:=congrArg List.length h3;have aA:=nZ c s;simp only[List.length_append,List.length_cons,List.length_nil] at this;omega
  simp only[Option.bind_some];rw[di (by decide) (by unfold au;simp only[List.length_cons,List.length_nil];omega)]
  simp only[Option.bind_some,h3]
 ·have hi:=cU hx;have hw:au i:=by unfold au;omega
  obtain⟨h0,h1⟩:=dr;have hlt:decide ((q.2.length:Int)<((s.length+1:Nat):Int))=true:=cf (by omega)
  refine⟨?_,fun fB oH=>?_⟩
  ·simp only[pg,cf hi,cond_true,hlt,b5,hx,Option.bind_some];cases hc:((x.toNat:Int)==(c.toNat:Int)) with
   |true=>
    simp only[cond_true];rw[qC h0 (by omega)]
    simp only[Option.bind_some];rw[di (by decide) (by unfold au;simp only[List.length_cons,List.length_nil];omega)]
    simp only[Option.bind_some,Option.map_some,bX hw]
   |false=>simp only[cond_false,Option.map_some,bX hw]
  ·simp only[Option.some.injEq,Sum.inl.injEq] at oH;subst oH;cases (x.toNat:Int)==(c.toNat:Int) with
   |true=>simp only[cond_true,List.length_append,List.length_cons,List.length_nil];omega
   |false=>simp only[cond_false];omega
 ·simp only[pg,dx,cond_false]
noncomputable def WS:aD:=F5
theorem aqd:aB O 271 WS:=afk (fn:=Tryz.f271) (by kernel_rfl) (by kernel_rfl) (by kernel_rfl) (by kernel_rfl) (by kernel_rfl)
noncomputable abbrev at6:a_:=[(271,WS)]
theorem avv:aR O (aX ad at6):=aV ⟨aqd,⟨⟩⟩
abbrev i244:Shape:=⟨[ak 0,(1,.am (.d (.int .u8)))],[],8⟩
abbrev XG:Shape:=⟨[ag 4],[],8⟩
noncomputable def f244(a:i244.J):Option XG.J:=
(some ()).bind fun fU=>
 some (((Lib.indexByte a.1.1 (a.1.2.1).toNat.toUInt8),()),())
noncomputable def Z1:aD:=aH ad Tryz.f244 i244 XG [] f244
theorem arM:aB O 244 Z1:=aK avv Tryz.func244 (by kernel_rfl) ae (fun y=>by kernel_rfl) fun a=>by kernel_rfl
noncomputable abbrev aun:a_:=[(244,Z1)]
theorem aag:aR O (aX ad aun):=aV ⟨arM,⟨⟩⟩
abbrev S_:Shape:=⟨[ak 0,ak 1,ag 5],[],143⟩
abbrev SO:List aP:=[(.norm,⟨[ak 0,ak 1,ag 5,ap 16],[],143⟩)]
noncomputable def A8(y:S_.J):Option (aC SO):=
 bif(!(y.1.2.2.1==(0:Int))) then
 some ((y.1.1,y.1.2.1,y.1.2.2.1,(y.1.2.1==y.1.1),()),())
else
 some ((y.1.1,y.1.2.1,y.1.2.2.1,true,()),())
theorem aml:aT O (an (codeOf Tryz.f209) 1 56) (aU S_ SO A8):=ce aag (by kernel_rfl) ae fun y=>by kernel_rfl
abbrev i209:Shape:=⟨[ak 0,ak 1],[],143⟩
abbrev X0:Shape:=⟨[ag 4],[],143⟩
noncomputable def f209(a:i209.J):Option X0.J:=
(A8 ((a.1.1,a.1.2.1,(a.1.2.1.length:Int),()),())).bind fun r'=>
 bif r'.1.2.2.2.1 then
 some (((0:Int),()),())
else
 bif(r'.1.2.2.1==(1:Int)) then
(aO r'.1.2.1 (0:Int)).bind fun NH=>
(f244 ((r'.1.1,(NH.toNat:Int),()),())).bind fun r8=>
 some ((r8.1.1,()),())
else
 bif(decide (r'.1.2.2.1>=(r'.1.1.length:Int))) then
 some ((((-1):Int),()),())
else
 none
noncomputable def Lq:aD:=aH ad Tryz.f209 i209 X0 [] f209
theorem W7:aB O 209 Lq:=aK aag Tryz.func209 (by kernel_rfl) (a8 aml ae) (fun y=>by kernel_rfl) fun a=>by kernel_rfl
noncomputable abbrev aul:a_:=[(209,Lq)]
theorem avE:aR O (aX ad aul):=aV ⟨W7,⟨⟩⟩
abbrev i212:Shape:=⟨[ak 0,ak 1],[],8⟩
abbrev XY:Shape:=⟨[ag 4],[],8⟩
noncomputable def f212(a:i212.J):Option XY.J:=
(f209 ((a.1.1,a.1.2.1,()),())).bind fun b=>
 some ((b.1.1,()),())
noncomputable def Dq:aD:=aH ad Tryz.f212 i212 XY [] f212
theorem z212:aB O 212 Dq:=aK avE Tryz.func212 (by kernel_rfl) ae (fun y=>by kernel_rfl) fun a=>by kernel_rfl
noncomputable abbrev Lf:Ctx:=aX ad [(212,Dq)]
noncomputable def Dm:Code:=codeOf Tryz.f266
noncomputable def ox:Code:=c4 (an Dm 1 12)
noncomputable def CI(p j:Nat):Oper:=(opsOf (an ox 24 p)).getD j default
noncomputable def Ke(j:Nat):Oper:=(opsOf (an Dm 1 7)).getD j default
theorem ao7(c:UInt8)(r:B):f212 ((r,([c],())),())=some ((Lib.indexByte r c,()),()):=by
 have h0:aO ([c]:B) (0:Int)=some c:=rfl;have h1:((([c]:B).length:Int)==0)=false:=rfl;have h2:((([c]:B).length:Int)==1)=true:=rfl;have h3:((c.toNat:Int)).toNat.toUInt8=c:=by simp
 simp only[f212,f209,A8,f244,h0,h1,h2,h3,Bool.not_false,cond_true,cond_false,Option.bind_some,Option.bind];by_cases h:(([c]:B)==r)=true
 ·have:r=[c]:=(by simpa using h:[c]=r).symm
  subst this;simp[Lib.indexByte]<;>rfl
 ·simp[h]<;>rfl
theorem aq9(c:UInt8)(r:B):exec (gV Lf []) (an ox 24 96) 96 (nE 52 c r) (Dd (gV Lf []) 52 7 8 (an ox 24 194) (an ox 24 390) 194 390)=
 (f212 ((r,([c],())),())).bind fun q=>bif decide (q.1.1<0) then some (.inl (lc 52 c r)) else(bm r 0 (IntKind.i64.wrap (q.1.1+0))).bind fun x=>some (.inr ((q.1.1,x),lc 52 c r)):=by kernel_rfl
theorem Wz:wv O 266:=
 ang (C:=gV Lf []) (aV ⟨z212,⟨⟩⟩) (fn:=Tryz.f266) (k:=52) (A:=an Dm 1 2) (r5:=an ox 24 96) (c6:=an ox 24 194) (r7:=an ox 24 390) (r9:=an ox 24 783)
  (o0:=CI 1564 0) (o1:=CI 1564 1) (o2:=CI 1564 2) (o3:=CI 1564 3) (q0:=Ke 0) (q1:=Ke 1) (q2:=Ke 2) (pA:=2) (p5:=96) (p6:=194) (p7:=390) (p9:=783) (t7:=7) (t8:=8) (a1:=39) (a2:=40)
  (t41:=41) (t42:=42) (u1:=49) (u2:=50) (ty:=#[9]) (DL:=#[9])
  {Zh:=(by kernel_rfl),nt:=(by kernel_rfl),cL:=(by decide),fp:=(by kernel_rfl),acz:=enters_of Tryz.func266 (by kernel_rfl) rfl,body:=⟨tu (an ox 24 1564),tu (an Dm 1 7),(by kernel_rfl)⟩,x9:=(by kernel_rfl),wr:=(by kernel_rfl),
   aV:=⟨(by kernel_rfl),(by kernel_rfl),(by kernel_rfl),(by kernel_rfl),(by kernel_rfl),(by kernel_rfl),(by kernel_rfl)⟩,adv:=(by kernel_rfl),adu:=(by kernel_rfl),d2:=(by kernel_rfl),KQ:=(by decide),c2:=(by kernel_rfl),d5:=(by kernel_rfl),
   kQ:=⟨lp (by kernel_rfl) ae,lp (by kernel_rfl) ae,lp (by kernel_rfl) ae,lp (by kernel_rfl) ae,lp (by kernel_rfl) ae⟩,
   dX:=fun c r=>(by kernel_rfl),hB:=fun c r=>(aq9 c r).trans (by rw[ao7];rfl),bk:=fun c r i x v=>(by kernel_rfl),h3:=fun c r b=>(by kernel_rfl),acw:=(by kernel_rfl),ye:=fun c r i=>(by kernel_rfl),Ez:=fun c r v=>(by kernel_rfl)}
  (by kernel_rfl) (by decide)
noncomputable abbrev auR:a_:=[(115,Dt)]
theorem LP:aR O (aX ad auR):=aV ⟨Kv,⟨⟩⟩
abbrev QB:Shape:=⟨[ay 2 2 0,ay 3 3 0,ay 4 4 0,ag 6,ap 7],[bp 5000128 .i64 2 0,ax 2 [.own 5000128],ax 3 [l3],bp 5000256 .i64 4 0,ax 4 [.own 5000256]],28⟩
abbrev Qi:List aP:=[(.norm,⟨[ay 2 2 0,ay 3 3 0,ay 4 4 0,ag 6,ap 22],[bp 5000128 .i64 2 0,ax 2 [.own 5000128],ax 3 [l3],bp 5000256 .i64 4 0,ax 4 [.own 5000256]],28⟩)]
noncomputable def F9(y:QB.J):Option (aC Qi):=
 bif(!(!y.1.2.2.2.2.1)) then
 some (((),(),(),y.1.2.2.2.1,((y.2.2.2.2.1.length:Int)==(4:Int)),()),y.2.1,((),()),(y.2.2.2.1.1,()),y.2.2.2.2.1,((),()),())
else
 some (((),(),(),y.1.2.2.2.1,true,()),y.2.1,((),()),(y.2.2.2.1.1,()),y.2.2.2.2.1,((),()),())
theorem aix:aT O (an (kh (an (codeOf Tryz.f151) 1 58)) 117 1876) (aU QB Qi F9):=ce LP (by kernel_rfl) ae fun y=>by kernel_rfl
abbrev AD:Shape:=⟨[ay 2 2 0,ay 3 3 0,ay 4 4 0],[bp 5000128 .i64 2 0,ax 2 [.own 5000128],ax 3 [l3],bp 5000256 .i64 4 0,ax 4 [.own 5000256]],28⟩
abbrev HS:List aP:=[(.norm,⟨[ay 2 2 0,ay 3 3 0,ay 4 4 0],[bp 5000128 .i64 2 0,ax 2 [.own 5000128],ax 3 [l3],bp 5000256 .i64 4 0,ax 4 [.own 5000256]],28⟩),(.ret,⟨[ay 2 2 0,ay 3 3 0],[bp 5000128 .i64 2 0,ax 2 [.own 5000128],ax 3 [l3]],28⟩)]
noncomputable def sZ(x:B)(y:AD.J):bG AD HS:=
(f115 ((x,(999:Int),()),())).bind fun a=>
(F9 (((),(),(),a.1.1,a.1.2.1,()),y.2.1,((),()),(y.2.2.2.1.1,()),y.2.2.2.2.1,((),()),())).bind fun b=>
 bif b.1.2.2.2.2.1 then
 some (.inr (.inr (((),(),()),([]:List Int),((),()),(false,()),())))
else
(b9 8 b.2.2.2.2.1 ([b.1.2.2.2.1]:List Int)).bind fun c=>
 some (.inl (((),(),(),()),b.2.1,((),()),(b.2.2.2.1.1,()),c,((),()),()))
noncomputable def vO(y:AD.J):Option (aC HS):=
 some (.inl (((),(),(),()),y.2.1,((),()),(y.2.2.2.1.1,()),y.2.2.2.2.1,((),()),()))
theorem amH:aT O (an (codeOf Tryz.f151) 1 58) (sI 266 9 AD HS sZ vO):=O7 (eX:=10) LP Wz (by kernel_rfl) (a8 aix ae) (by kernel_rfl) (fun x y=>by kernel_rfl) fun y=>by kernel_rfl
abbrev i151:Shape:=⟨[ak 0],[],28⟩
abbrev YC:Shape:=⟨[ay 2 2 0,ay 3 3 0],[bp 5000128 .i64 2 0,ax 2 [.own 5000128],ax 3 [l3]],28⟩
noncomputable def f151(a:i151.J):Option YC.J:=
(bif Nat.ble a.1.1.length kK then iH sZ vO (bF (46:UInt8) a.1.1) (((),(),(),()),([]:List Int),((),()),(false,()),([]:List Int),((),()),()) else none).bind fun b=>
(match b with
|.inl c=>
 some (((),(),()),c.2.2.2.2.1,((),()),(true,()),())
|.inr d=>
 some (((),(),()),d.2.1,((),()),(d.2.2.2.1.1,()),()))
noncomputable def Lz:aD:=aH ad Tryz.f151 i151 YC [] f151
theorem W':aB O 151 Lz:=aK LP Tryz.func151 (by kernel_rfl) (a8 amH ae) (fun y=>by kernel_rfl) fun a=>by kernel_rfl
noncomputable abbrev avo:a_:=[(151,Lz)]
theorem av0:aR O (aX ad avo):=aV ⟨W',⟨⟩⟩
abbrev i100:Shape:=⟨[ak 0],[],11⟩
abbrev Zb:Shape:=⟨[ap 2],[],11⟩
noncomputable def f100(a:i100.J):Option Zb.J:=
(f151 ((a.1.1,()),())).bind fun b=>
 some ((b.2.2.2.1.1,()),())
noncomputable def Du:aD:=aH ad Tryz.f100 i100 Zb [] f100
theorem Kw:aB O 100 Du:=aK av0 Tryz.func100 (by kernel_rfl) ae (fun y=>by kernel_rfl) fun a=>by kernel_rfl
noncomputable abbrev avn:a_:=[(99,Nd),(100,Du)]
theorem aaD:aR O (aX ad avn):=aV ⟨aaH,Kw,⟨⟩⟩
abbrev R1:Shape:=⟨[ay 1 1 0,ag 8],[ax 1 [ah,a6,ah]],21⟩
abbrev RH:List aP:=[(.norm,⟨[ay 1 1 0,ap 14],[ax 1 [ah,a6,ah]],21⟩)]
noncomputable def Hd(y:R1.J):Option (aC RH):=
 bif(y.1.2.1==(1:Int)) then
 some (((),(y.1.2.1==(1:Int)),()),(y.2.1.1,y.2.1.2.1,y.2.1.2.2.1,()),())
else
 bif(y.1.2.1==(2:Int)) then
 some (((),(y.1.2.1==(2:Int)),()),(y.2.1.1,y.2.1.2.1,y.2.1.2.2.1,()),())
else
 some (((),(y.1.2.1==(3:Int)),()),(y.2.1.1,y.2.1.2.1,y.2.1.2.2.1,()),())
theorem akH:aT O (an (codeOf Tryz.f102) 1 470) (aU R1 RH Hd):=ce aaD (by kernel_rfl) ae fun y=>by kernel_rfl
abbrev i102:Shape:=⟨[b_ 0 [ah,a6,ah]],[],21⟩
abbrev Za:Shape:=⟨[ap 2],[],21⟩
noncomputable def f102(a:i102.J):Option Za.J:=
(f99 ((a.1.1.1,()),())).bind fun b=>
 bif(!b.1.1) then
 some ((false,()),())
else
 bif(a.1.1.2.1==(0:Int)) then
 some (((a.1.1.2.2.1==([]:B)),()),())
else
(Hd (((),a.1.1.2.1,()),(a.1.1.1,a.1.1.2.1,a.1.1.2.2.1,()),())).bind fun c=>
 bif c.1.2.1 then
(f100 ((c.2.1.2.2.1,()),())).bind fun d=>
 some ((d.1.1,()),())
else
 some ((false,()),())
noncomputable def xe:aD:=aH ad Tryz.f102 i102 Za [] f102
theorem C6:aB O 102 xe:=aK aaD Tryz.func102 (by kernel_rfl) (a8 akH ae) (fun y=>by kernel_rfl) fun a=>by kernel_rfl
noncomputable abbrev auY:a_:=[(73,qd),(74,Ei),(75,oS)]
theorem aar:aR O (aX ad auY):=aV ⟨rs,LW,z75,⟨⟩⟩
abbrev zD:Shape:=⟨[ba 4 3000256,ba 5 3000320,ag 6],[a' 3000256 .str 4 0,a' 3000320 .i64 5 0],37⟩
abbrev qB:List aP:=[(.ret,⟨[ba 2 3000128,ap 3],[a' 3000128 .i64 2 0],37⟩),(.exit 0,⟨[ba 4 3000256,ba 5 3000320],[a' 3000256 .str 4 0,a' 3000320 .i64 5 0],37⟩)]
noncomputable def z1(y:zD.J):bG zD qB:=
 bif(decide (y.1.2.2.1<(y.2.1.length:Int))) then
(be y.2.1.length y.1.2.2.1).bind fun a=>
(y.2.1[a]?).bind fun b=>
(f74 ((b,()),())).bind fun c=>
(f75 ((c.1.1,(0:Int),(999:Int),()),())).bind fun d=>
 bif(!d.1.1) then
 some (.inr (.inl (((),false,()),y.2.2.1,())))
else
(b9 8 y.2.2.1 ([c.1.1]:List Int)).bind fun e=>
 some (.inl (((),(),(IntKind.i64.wrap (y.1.2.2.1+(1:Int))),()),y.2.1,e,()))
else
 some (.inr (.inr (((),(),()),y.2.1,y.2.2.1,())))
noncomputable def G0:zD.J->Option (aC qB):=bu z1
theorem akA:aT O (an (codeOf Tryz.f140) 1 122) (aU zD qB G0):=bI aar (by kernel_rfl) ae fun y=>by kernel_rfl
abbrev i140:Shape:=⟨[ak 0],[],37⟩
abbrev YM:Shape:=⟨[ba 2 3000128,ap 3],[a' 3000128 .i64 2 0],37⟩
noncomputable def f140(a:i140.J):Option YM.J:=
(f73 ((a.1.1,(46:Int),(IntKind.i64.wrap ((a.1.1.length:Int)+(1:Int))),()),())).bind fun b=>
(G0 (((),(),(0:Int),()),b.2.1,([]:List Int),())).bind fun c=>
(match c with
|.inl d=>
 some (((),d.1.2.1,()),d.2.1,())
|.inr e=>
 some (((),(decide ((e.2.1.length:Int)<=(4:Int))),()),e.2.2.1,()))
noncomputable def LD:aD:=aH ad Tryz.f140 i140 YM [] f140
theorem Xb:aB O 140 LD:=aK aar Tryz.func140 (by kernel_rfl) (a8 akA ae) (fun y=>by kernel_rfl) fun a=>by kernel_rfl
noncomputable abbrev azh:a_:=[(140,LD)]
theorem azY:aR O (aX ad azh):=aV ⟨Xb,⟨⟩⟩
abbrev i88:Shape:=⟨[ak 0],[],11⟩
abbrev aa6:Shape:=⟨[ap 2],[],11⟩
noncomputable def f88(a:i88.J):Option aa6.J:=
(f140 ((a.1.1,()),())).bind fun b=>
 some ((b.1.2.1,()),())
noncomputable def Nf:aD:=aH ad Tryz.f88 i88 aa6 [] f88
theorem aaI:aB O 88 Nf:=aK azY Tryz.func88 (by kernel_rfl) ae (fun y=>by kernel_rfl) fun a=>by kernel_rfl
noncomputable abbrev auu:a_:=[(75,oS),(87,Ng),(88,Nf)]
theorem avH:aR O (aX ad auu):=aV ⟨z75,z87,aaI,⟨⟩⟩
abbrev i192:Shape:=⟨[b_ 0 [ah,a6,ah]],[],26⟩
abbrev X_:Shape:=⟨[ap 2],[],26⟩
noncomputable def f192(a:i192.J):Option X_.J:=
(f87 ((a.1.1.1,()),())).bind fun b=>
 bif b.1.1 then
 bif(a.1.1.2.1==(0:Int)) then
 bif(!(a.1.1.2.2.1==([]:B))) then
(f75 ((a.1.1.2.1,(1:Int),(3:Int),()),())).bind fun c=>
 bif c.1.1 then
(f88 ((a.1.1.2.2.1,()),())).bind fun d=>
 some ((d.1.1,()),())
else
 some ((false,()),())
else
 some ((true,()),())
else
(f75 ((a.1.1.2.1,(1:Int),(3:Int),()),())).bind fun e=>
 bif e.1.1 then
(f88 ((a.1.1.2.2.1,()),())).bind fun f=>
 some ((f.1.1,()),())
else
 some ((false,()),())
else
 some ((false,()),())
noncomputable def Lu:aD:=aH ad Tryz.f192 i192 X_ [] f192
theorem W9:aB O 192 Lu:=aK avH Tryz.func192 (by kernel_rfl) ae (fun y=>by kernel_rfl) fun a=>by kernel_rfl
theorem Pn:∀(r:B) (n:Int),r.all cP=true->0<=n->0<=r.foldl ef n:=by
 intro r;induction r with
 |nil=>intro n _ h;exact h
 |cons b r ih=>
  intro n Z h;simp only[List.all_cons,Bool.and_eq_true] at Z;have hb:=iP Z.1;exact ih _ Z.2 (by unfold ef;omega)
def ij(s:B):List B:=bF 46 s
def ei(s:B):Bool:=(ij s).all fA&&decide ((ij s).length<=4)
def hS(s:B):List Int:=(ij s).map de
theorem afZ(x:B):within (bif x.all cP&&decide (x.length<=6)&&!(x==[])&&!ik x then de x else-1) 0 999=fA x:=by
 unfold fA within;cases h1:x.all cP with
 |false=>simp
 |true=>
  have:=Pn x 0 h1 (Int.le_refl _);have hv:decide ((0:Int)<=de x)=true:=by simp only[decide_eq_true_eq];exact this
  cases h2:decide (x.length<=6)<;>cases h3:(x==[])<;>cases aA:ik x<;>simp[hv]
theorem Fu(a)(hs:ci a.1.1.length):∃out,f140 a=some (((),(ei a.1.1,())),(out,()))/\(ei a.1.1=true->out=hS a.1.1):=by
 obtain⟨⟨s,u⟩,bV⟩:=a;have hs:s.length<=2097152:=hs;have hlen:=nZ 46 s;have fR:f73 ((s,((46:Int),((IntKind.i64.wrap ((s.length:Int)+(1:Int))),()))),())=some (((),()),(ij s,())):=
  vz 46 _ hs rfl (bX (by unfold au;omega))
 have key:=l_ z1 (ij s) (fun i (out:List Int)=>(((),((),((i:Int),()))),(ij s,(out,()))))
  (fun i x out=>some (bif fA x then .inl (out++[de x]) else .inr ((.inl (((),(false,())),(out,()))):aC qB))) (fun out=>((.inr (((),((),())),(ij s,(out,())))):aC qB))
  (fun i out=>out.length<=i) [] (Nat.le_refl _) (fun i x out hx dr=>?_) (fun out _=>?_)
 ·have fold:∀(r:List B) (k:Nat) (out:List Int),eV (fun i x out=>some (bif fA x then .inl (out++[de x]) else .inr ((.inl (((),(false,())),(out,()))):aC qB))) (fun out=>((.inr (((),((),())),(ij s,(out,())))):aC qB)) k r out=
    some (bif r.all fA then(.inr (((),((),())),(ij s,(out++r.map de,())))) else(.inl (((),(false,())),(out++(r.takeWhile fA).map de,())))):=by
   intro r;induction r with
   |nil=>intro k out;simp[eV]
   |cons x r ih=>
    intro k out;simp only[eV,List.all_cons];cases hn:fA x with
    |false=>simp[hn]
    |true=>simp only[cond_true,Bool.true_and];rw[ih];simp[hn,List.append_assoc]
  have key:G0 (((),((),((0:Int),()))),(ij s,(([]:List Int),())))=_:=key.trans (fold (ij s) 0 []);simp only[f140,fR,Option.bind_some,key,List.nil_append];unfold ei;cases nx:(ij s).all fA with
  |false=>exact⟨_,rfl,fun h=>by cases h⟩
  |true=>
   simp only[cond_true,Bool.true_and];have:decide (((ij s).length:Int)<=4)=decide ((ij s).length<=4):=by by_cases h:(ij s).length<=4<;>simp[h]<;>omega
   rw[this];exact⟨_,rfl,fun _=>rfl⟩
 ·have hi:=cU hx;have wG:(ij s).length<=s.length+1:=hlen;have hw:au i:=by unfold au;omega
  have hxl:x.length<=s.length:=qp 46 s x (List.mem_of_getElem? hx);refine⟨?_,fun aN aj=>?_⟩
  ·simp only[z1,cf hi,cond_true,fx hi,hx,Option.bind_some];rw[Ho _ (show au x.length by unfold au;omega)]
   simp only[Option.bind_some,og,afZ];cases hn:fA x with
   |false=>rfl
   |true=>
    have hv:(bif x.all cP&&decide (x.length<=6)&&!(x==[])&&!ik x then de x else-1)=de x:=by
     unfold fA at hn;simp only[Bool.and_eq_true] at hn;obtain⟨⟨⟨⟨h1,h2⟩,h3⟩,aA⟩,bl⟩:=hn;rw[h1,aA,h2,h3];rfl
    simp only[Bool.not_true,cond_false,hv,cond_true];rw[di (by decide) (by unfold au;simp only[List.length_cons,List.length_nil];omega)]
    simp only[Option.bind_some,bX hw,Option.map_some]
  ·simp only[Option.some.injEq] at aj;cases hn:fA x with
   |false=>rw[hn] at aj;cases aj
   |true=>
    rw[hn] at aj;simp only[cond_true,Sum.inl.injEq] at aj;subst aj;simp only[List.length_append,List.length_cons,List.length_nil];omega
 ·simp only[z1,dx,cond_false]
theorem OS(a)(hs:ci a.1.1.length):f88 a=some ((ei a.1.1,()),()):=by
 obtain⟨out,h,_⟩:=Fu ((a.1.1,()),()) hs;simp only[f88,h,Option.bind_some]
theorem EO(a)(hs:ci a.1.1.length):f151 a=some (((),((),())),((bif ei a.1.1 then hS a.1.1 else []),(((),()),((ei a.1.1,()),())))):=by
 obtain⟨⟨s,u⟩,bV⟩:=a;have hs:s.length<=2097152:=hs;have K_:Nat.ble s.length kK=true:=Nat.ble_eq_true_of_le (by unfold kK;omega)
 have fold:∀(r:List B) (out:List Int),(∀x,x∈r->x.length<=s.length)->out.length<=4->
   iH sZ vO r (((),((),((),()))),(([]:List Int),(((),()),((false,()),(out,(((),()),()))))))=
    some (bif r.all fA&&decide (out.length+r.length<=4) then(.inl (((),((),((),()))),(([]:List Int),(((),()),((false,()),(out++r.map de,(((),()),()))))))) else(.inr (((),((),())),(([]:List Int),(((),()),((false,()),())))))):=by
  intro r;induction r with
  |nil=>
   intro out _ aM;have:decide (out.length+0<=4)=true:=by simpa using aM
   simp only[iH,vO,List.all_nil,List.length_nil,this,Bool.and_self,cond_true,List.map_nil,List.append_nil]
  |cons x r ih=>
   intro out hr aM;have hx:=hr x List.mem_cons_self;have atg:=ajs ((x,((999:Int),())),()) (show au x.length by unfold au;omega) rfl
   have step:sZ x (((),((),((),()))),(([]:List Int),(((),()),((false,()),(out,(((),()),()))))))=
     some (bif fA x&&decide (out.length+1<=4) then .inl (((),((),((),()))),(([]:List Int),(((),()),((false,()),(out++[de x],(((),()),())))))) else .inr (.inr (((),((),())),(([]:List Int),(((),()),((false,()),())))))):=by
    simp only[sZ,atg,Option.bind_some,F9,Bool.not_not];have aA:((out.length:Int)==4)=!decide (out.length+1<=4):=by
     by_cases h:out.length=4
     ·rw[h];rfl
     ·have bl:decide (out.length+1<=4)=true:=by simp only[decide_eq_true_eq];omega
      rw[bl];simp only[beq_eq_false_iff_ne,ne_eq,Bool.not_true];omega
    rw[aA];cases hn:fA x with
    |false=>rfl
    |true=>
     simp only[cond_true,Option.bind_some,Bool.true_and];cases az:decide (out.length+1<=4) with
     |false=>rfl
     |true=>
      simp only[Bool.not_true,cond_false,cond_true];rw[di (by decide) (by unfold au;simp only[List.length_cons,List.length_nil];omega)]
      rfl
   rw[iH,step,List.all_cons];cases hn:fA x with
   |false=>rfl
   |true=>
    simp only[Bool.true_and];cases az:decide (out.length+1<=4) with
    |false=>
     have:decide (out.length+(x::r).length<=4)=false:=by simp only[decide_eq_false_iff_not,List.length_cons] at az ⊢;omega
     rw[this];simp
    |true=>
     simp only[cond_true];rw[ih (out++[de x]) (fun y hy=>hr y (List.mem_cons_of_mem _ hy)) (by simp only[List.length_append,List.length_cons,List.length_nil];simpa using az)]
     have e1:(out++[de x]).length+r.length=out.length+(x::r).length:=by simp only[List.length_append,List.length_cons,List.length_nil];omega
     rw[e1,List.map_cons,List.append_assoc];rfl
 have key:=fold (bF (46:UInt8) s) [] (fun x hx=>qp 46 s x hx) (Nat.zero_le _)
 have KU:iH sZ vO (bF (46:UInt8) s) (((),((),((),()))),(([]:List Int),(((),()),((false,()),(([]:List Int),(((),()),()))))))=
    some (bif ei s then(.inl (((),((),((),()))),(([]:List Int),(((),()),((false,()),(hS s,(((),()),()))))))) else(.inr (((),((),())),(([]:List Int),(((),()),((false,()),())))))):=by
  rw[key];unfold ei hS ij;simp only[List.length_nil,Nat.zero_add,List.nil_append]
 simp only[f151,K_,cond_true,KU,Option.bind_some];cases ei s<;>rfl
theorem ES(a)(hs:ci a.1.1.length):f100 a=some ((ei a.1.1,()),()):=by
 simp only[f100,EO ((a.1.1,()),()) hs,Option.bind_some]
def dD(n:bx):Bool:=iD n.name&&(n.kind==0&&(n.aW==[])||within n.kind 1 3&&ei n.aW)
abbrev x3(n:bx):Prop:=ci n.name.length/\ci n.aW.length
theorem Rn(a)(h1:ci a.1.1.1.length)(h2:ci a.1.1.2.2.1.length):f192 a=some ((dD ⟨a.1.1.1,a.1.1.2.1,a.1.1.2.2.1⟩,()),()):=by
 obtain⟨⟨⟨n,k,v,u⟩,bV⟩,nB⟩:=a;have h1:n.length<=2097152:=h1;have h2:v.length<=2097152:=h2;have e1:=Rj ((n,()),()) (show au n.length by unfold au;omega)
 have e2:=OS ((v,()),()) h2;simp only[f192,e1,e2,og,Option.bind_some,dD];cases iD n with
 |false=>rfl
 |true=>
  cases hk:(k==0) with
  |false=>
   simp only[cond_true,cond_false];cases within k 1 3<;>cases ei v<;>rfl
  |true=>
   have:within k 1 3=false:=by
    have:k=0:=by simpa using hk
    subst this;decide
   rw[this];cases (v==[])<;>rfl
theorem ahv{k:Int}(l1:¬k=0)(aE:¬k=1)(aF:¬k=2)(bJ:¬k=3):within k 1 3=false:=by
 unfold within;cases h:(decide (1<=k)&&decide (k<=3)) with
 |false=>rfl
 |true=>simp only[Bool.and_eq_true,decide_eq_true_eq] at h;omega
theorem yS(a)(h1:ci a.1.1.1.length)(h2:ci a.1.1.2.2.1.length):f102 a=some ((dD ⟨a.1.1.1,a.1.1.2.1,a.1.1.2.2.1⟩,()),()):=by
 obtain⟨⟨⟨n,k,v,u⟩,bV⟩,nB⟩:=a;have h1:n.length<=2097152:=h1;have h2:v.length<=2097152:=h2;have e1:=OC ((n,()),()) (show au n.length by unfold au;omega)
 have e2:=ES ((v,()),()) h2;simp only[f102,e1,e2,Option.bind_some,dD,Hd];cases iD n with
 |false=>rfl
 |true=>
  simp only[Bool.not_true,cond_false,Bool.true_and];by_cases l1:k=0
  ·subst l1;cases (v==[])<;>rfl
  ·have p0:(k==0)=false:=by simpa using l1
   rw[p0];by_cases aE:k=1
   ·subst aE;cases hv:ei v<;>simp[within,e2,hv]
   ·have rK:(k==1)=false:=by simpa using aE
    rw[rK];by_cases aF:k=2
    ·subst aF;cases hv:ei v<;>simp[within,e2,hv]
    ·have hk2:(k==2)=false:=by simpa using aF
     rw[hk2];by_cases bJ:k=3
     ·subst bJ;cases hv:ei v<;>simp[within,e2,hv]
     ·have axT:(k==3)=false:=by simpa using bJ
      rw[axT];rw[ahv l1 aE aF bJ];rfl
noncomputable abbrev apU:a_:=[(102,xe)]
theorem V_:aR O (aX ad apU):=aV ⟨C6,⟨⟩⟩
abbrev y8:Shape:=⟨[(1,.am (.fn 102 [])),aL 7 .need,ag 8,ag 9],[],18⟩
abbrev FH:List aP:=[(.ret,⟨[ap 4],[],18⟩),(.exit 0,⟨[],[],18⟩)]
noncomputable def zk(y:y8.J):bG y8 FH:=
 bif(decide (y.1.2.2.2.1<y.1.2.2.1)) then
(aO y.1.2.1 y.1.2.2.2.1).bind fun a=>
(f102 (((a.name,a.kind,a.aW,()),()),())).bind fun b=>
 bif(!b.1.1) then
 some (.inr (.inl ((false,()),())))
else
 some (.inl (((),y.1.2.1,y.1.2.2.1,(IntKind.i64.wrap (y.1.2.2.2.1+(1:Int))),()),()))
else
 some (.inr (.inr ((),())))
noncomputable def F2:y8.J->Option (aC FH):=bu zk
theorem aiJ:aT O (an (codeOf Tryz.f101) 1 26) (aU y8 FH F2):=bI V_ (by kernel_rfl) ae fun y=>by kernel_rfl
abbrev VD:Shape:=⟨[aL 0 .need,(1,.am (.fn 102 []))],[],18⟩
abbrev U_:Shape:=⟨[ap 4],[],18⟩
noncomputable def Cv(a:VD.J):Option U_.J:=
(F2 (((),a.1.1,(a.1.1.length:Int),(0:Int),()),())).bind fun b=>
(match b with
|.inl c=>
 some ((c.1.1,()),())
|.inr d=>
 some ((true,()),()))
noncomputable def V5:aD:=aH ad Tryz.f101 VD U_ [] Cv
theorem an9:aB O 101 V5:=aK V_ Tryz.func101 (by kernel_rfl) (a8 aiJ ae) (fun y=>by kernel_rfl) fun a=>by kernel_rfl
abbrev i104:Shape:=⟨[b_ 0 [ah,a6,ah]],[],5⟩
abbrev Y':Shape:=⟨[ak 2],[],5⟩
noncomputable def f104(a:i104.J):Option Y'.J:=
 some ((a.1.1.1,()),())
noncomputable def aab:aD:=aH ad Tryz.f104 i104 Y' [] f104
theorem asz:aB O 104 aab:=aK g0 Tryz.func104 (by kernel_rfl) ae (fun y=>by kernel_rfl) fun a=>by kernel_rfl
abbrev i149:Shape:=⟨[aL 0 .str],[],8⟩
abbrev KN:Shape:=⟨[ba 2 3000128],[a' 3000128 .str 2 0],8⟩
noncomputable def f149(a:i149.J):Option KN.J:=
 qy (t:=.str) a.1.1 (some (((),()),([]:List B),())) ((b9 16 ([]:List B) a.1.1).bind fun b=>
 some (((),()),b,()))
noncomputable def _M:aD:=aH ad Tryz.f149 i149 KN [] f149
theorem asl:aB O 149 _M:=aK g0 Tryz.func149 (by kernel_rfl) ae (fun y=>by kernel_rfl) fun a=>by kernel_rfl
abbrev Ar:Shape:=⟨[aL 0 .str,ak 1,ag 7,ag 8],[],19⟩
abbrev sO:List aP:=[(.ret,⟨[ag 4],[],19⟩),(.exit 0,⟨[],[],19⟩)]
noncomputable def A9(y:Ar.J):bG Ar sO:=
 bif(decide (y.1.2.2.2.1<y.1.2.2.1)) then
(aO y.1.1 y.1.2.2.2.1).bind fun a=>
 bif(y.1.2.1==a) then
 some (.inr (.inl ((y.1.2.2.2.1,()),())))
else
 some (.inl ((y.1.1,y.1.2.1,y.1.2.2.1,(IntKind.i64.wrap (y.1.2.2.2.1+(1:Int))),()),()))
else
 some (.inr (.inr ((),())))
noncomputable def Ir:Ar.J->Option (aC sO):=bu A9
theorem amo:aT O (an (codeOf Tryz.f197) 1 26) (aU Ar sO Ir):=bI g0 (by kernel_rfl) ae fun y=>by kernel_rfl
abbrev i197:Shape:=⟨[aL 0 .str,ak 1],[],19⟩
abbrev KL:Shape:=⟨[ag 4],[],19⟩
noncomputable def f197(a:i197.J):Option KL.J:=
(Ir ((a.1.1,a.1.2.1,(a.1.1.length:Int),(0:Int),()),())).bind fun b=>
(match b with
|.inl c=>
 some ((c.1.1,()),())
|.inr d=>
 some ((((-1):Int),()),()))
noncomputable def _i:aD:=aH ad Tryz.f197 i197 KL [] f197
theorem arZ:aB O 197 _i:=aK g0 Tryz.func197 (by kernel_rfl) (a8 amo ae) (fun y=>by kernel_rfl) fun a=>by kernel_rfl
noncomputable abbrev auS:a_:=[(197,_i)]
theorem avQ:aR O (aX ad auS):=aV ⟨arZ,⟨⟩⟩
abbrev i150:Shape:=⟨[aL 0 .str,ak 1],[],9⟩
abbrev YD:Shape:=⟨[ap 4],[],9⟩
noncomputable def f150(a:i150.J):Option YD.J:=
(f197 ((a.1.1,a.1.2.1,()),())).bind fun b=>
 some (((decide (b.1.1>=(0:Int))),()),())
noncomputable def _L:aD:=aH ad Tryz.f150 i150 YD [] f150
theorem asj:aB O 150 _L:=aK avQ Tryz.func150 (by kernel_rfl) ae (fun y=>by kernel_rfl) fun a=>by kernel_rfl
noncomputable abbrev apT:a_:=[(104,aab),(149,_M),(150,_L)]
theorem V9:aR O (aX ad apT):=aV ⟨asz,asl,asj,⟨⟩⟩
abbrev y7:Shape:=⟨[(1,.am (.fn 104 [])),ba 7 3000448,aL 12 .need,ag 13,ag 14],[a' 3000448 .str 7 0],30⟩
abbrev sA:List aP:=[(.ret,⟨[ap 6],[],30⟩),(.exit 0,⟨[],[],30⟩)]
noncomputable def zj(y:y7.J):bG y7 sA:=
 bif(decide (y.1.2.2.2.2.1<y.1.2.2.2.1)) then
(aO y.1.2.2.1 y.1.2.2.2.2.1).bind fun a=>
(f104 (((a.name,a.kind,a.aW,()),()),())).bind fun b=>
(f150 ((y.2.1,b.1.1,()),())).bind fun c=>
 bif c.1.1 then
 some (.inr (.inl ((true,()),())))
else
(f104 (((a.name,a.kind,a.aW,()),()),())).bind fun d=>
(b9 16 y.2.1 ([d.1.1]:List B)).bind fun e=>
 some (.inl (((),(),y.1.2.2.1,y.1.2.2.2.1,(IntKind.i64.wrap (y.1.2.2.2.2.1+(1:Int))),()),e,()))
else
 some (.inr (.inr ((),())))
noncomputable def F1:y7.J->Option (aC sA):=bu zj
theorem aiI:aT O (an (codeOf Tryz.f103) 1 58) (aU y7 sA F1):=bI V9 (by kernel_rfl) ae fun y=>by kernel_rfl
abbrev VC:Shape:=⟨[aL 0 .need,(1,.am (.fn 104 [])),aL 2 .str],[],30⟩
abbrev U9:Shape:=⟨[ap 6],[],30⟩
noncomputable def Cu(a:VC.J):Option U9.J:=
(f149 ((a.1.2.2.1,()),())).bind fun b=>
(F1 (((),(),a.1.1,(a.1.1.length:Int),(0:Int),()),b.2.1,())).bind fun c=>
(match c with
|.inl d=>
 some ((d.1.1,()),())
|.inr e=>
 some ((false,()),()))
noncomputable def V4:aD:=aH ad Tryz.f103 VC U9 [] Cu
theorem an8:aB O 103 V4:=aK V9 Tryz.func103 (by kernel_rfl) (a8 aiI ae) (fun y=>by kernel_rfl) fun a=>by kernel_rfl
noncomputable abbrev auX:a_:=[(192,Lu)]
theorem aaq:aR O (aX ad auX):=aV ⟨W9,⟨⟩⟩
abbrev AH:Shape:=⟨[aL 0 .need,ag 3],[],19⟩
abbrev HW:List aP:=[(.ret,⟨[ap 2],[],19⟩),(.exit 0,⟨[aL 0 .need],[],19⟩)]
noncomputable def Bk(y:AH.J):bG AH HW:=
 bif(decide (y.1.2.1<(y.1.1.length:Int))) then
(aO y.1.1 y.1.2.1).bind fun a=>
(f192 (((a.name,a.kind,a.aW,()),()),())).bind fun b=>
 bif(!b.1.1) then
 some (.inr (.inl ((false,()),())))
else
 some (.inl ((y.1.1,(IntKind.i64.wrap (y.1.2.1+(1:Int))),()),()))
else
 some (.inr (.inr ((y.1.1,()),())))
noncomputable def ID:AH.J->Option (aC HW):=bu Bk
theorem amL:aT O (an (codeOf Tryz.f141) 1 26) (aU AH HW ID):=bI aaq (by kernel_rfl) ae fun y=>by kernel_rfl
abbrev i141:Shape:=⟨[aL 0 .need],[],19⟩
abbrev YL:Shape:=⟨[ap 2],[],19⟩
noncomputable def f141(a:i141.J):Option YL.J:=
(ID ((a.1.1,(0:Int),()),())).bind fun b=>
(match b with
|.inl c=>
 some ((c.1.1,()),())
|.inr d=>
 some (((decide ((d.1.1.length:Int)<=(6:Int))),()),()))
noncomputable def _Q:aD:=aH ad Tryz.f141 i141 YL [] f141
theorem z141:aB O 141 _Q:=aK aaq Tryz.func141 (by kernel_rfl) (a8 amL ae) (fun y=>by kernel_rfl) fun a=>by kernel_rfl
abbrev y2:Shape:=⟨[aL 0 .str,ag 3,ag 4],[],25⟩
abbrev FC:List aP:=[(.ret,⟨[ap 2],[],25⟩),(.exit 2,⟨[aL 0 .str,ag 3],[],25⟩)]
noncomputable def zf(y:y2.J):bG y2 FC:=
 bif(decide (y.1.2.2.1<y.1.2.1)) then
(aO y.1.1 y.1.2.2.1).bind fun a=>
(aO y.1.1 y.1.2.1).bind fun b=>
 bif(a==b) then
 some (.inr (.inl ((true,()),())))
else
 some (.inl ((y.1.1,y.1.2.1,(IntKind.i64.wrap (y.1.2.2.1+(1:Int))),()),()))
else
 some (.inr (.inr ((y.1.1,y.1.2.1,()),())))
noncomputable def FW:y2.J->Option (aC FC):=bu zf
theorem aiz:aT O (an (c4 (an (codeOf Tryz.f142) 1 26)) 52 1682) (aU y2 FC FW):=bI g0 (by kernel_rfl) ae fun y=>by kernel_rfl
abbrev AG:Shape:=⟨[aL 0 .str,ag 3],[],25⟩
abbrev HV:List aP:=[(.ret,⟨[ap 2],[],25⟩),(.exit 0,⟨[],[],25⟩)]
noncomputable def Bj(y:AG.J):bG AG HV:=
 bif(decide (y.1.2.1<(y.1.1.length:Int))) then
(FW ((y.1.1,y.1.2.1,(0:Int),()),())).bind fun a=>
(match a with
|.inl b=>
 some (.inr (.inl ((b.1.1,()),())))
|.inr c=>
 some (.inl ((c.1.1,(IntKind.i64.wrap (c.1.2.1+(1:Int))),()),())))
else
 some (.inr (.inr ((),())))
noncomputable def IC:AG.J->Option (aC HV):=bu Bj
theorem amK:aT O (an (codeOf Tryz.f142) 1 26) (aU AG HV IC):=bI g0 (by kernel_rfl) (a8 aiz ae) fun y=>by kernel_rfl
abbrev i142:Shape:=⟨[aL 0 .str],[],25⟩
abbrev YK:Shape:=⟨[ap 2],[],25⟩
noncomputable def f142(a:i142.J):Option YK.J:=
(IC ((a.1.1,(0:Int),()),())).bind fun b=>
(match b with
|.inl c=>
 some ((c.1.1,()),())
|.inr d=>
 some ((false,()),()))
noncomputable def _P:aD:=aH ad Tryz.f142 i142 YK [] f142
theorem asn:aB O 142 _P:=aK g0 Tryz.func142 (by kernel_rfl) (a8 amK ae) (fun y=>by kernel_rfl) fun a=>by kernel_rfl
noncomputable abbrev azg:a_:=[(141,_Q),(142,_P)]
theorem ac9:aR O (aX ad azg):=aV ⟨z141,asn,⟨⟩⟩
abbrev BO:Shape:=⟨[aL 1 .need,ba 5 3000320,ag 6],[a' 3000320 .str 5 0],30⟩
abbrev BG:List aP:=[(.exit 0,⟨[aL 1 .need,ba 5 3000320],[a' 3000320 .str 5 0],30⟩)]
noncomputable def Cd(y:BO.J):bG BO BG:=
 bif(decide (y.1.2.2.1<(y.1.1.length:Int))) then
(aO y.1.1 y.1.2.2.1).bind fun a=>
(b9 16 y.2.1 ([a.name]:List B)).bind fun b=>
 some (.inl ((y.1.1,(),(IntKind.i64.wrap (y.1.2.2.1+(1:Int))),()),b,()))
else
 some (.inr ((y.1.1,(),()),y.2.1,()))
noncomputable def JE:BO.J->Option (aC BG):=bu Cd
theorem aoy:aT O (an (codeOf Tryz.f89) 1 58) (aU BO BG JE):=bI ac9 (by kernel_rfl) ae fun y=>by kernel_rfl
abbrev i89:Shape:=⟨[ak 0,aL 1 .need],[],30⟩
abbrev aa5:Shape:=⟨[ap 4],[],30⟩
noncomputable def f89(a:i89.J):Option aa5.J:=
(JE ((a.1.2.1,(),(0:Int),()),([a.1.1]:List B),())).bind fun b=>
(f141 ((b.1.1,()),())).bind fun c=>
 bif c.1.1 then
(f142 ((b.2.1,()),())).bind fun d=>
 some (((!d.1.1),()),())
else
 some ((false,()),())
noncomputable def acI:aD:=aH ad Tryz.f89 i89 aa5 [] f89
theorem av7:aB O 89 acI:=aK ac9 Tryz.func89 (by kernel_rfl) (a8 aoy ae) (fun y=>by kernel_rfl) fun a=>by kernel_rfl
abbrev ua(ns:List bx):Prop:=ci ns.length/\∀n,n∈ns->x3 n
theorem Dc(n:Nat)(k:Nat):decide ((n:Int)<=(k:Int))=decide (n<=k):=by by_cases h:n<=k<;>simp[h]<;>omega
theorem ahD(a)(hs:ua a.1.1):f141 a=some ((a.1.1.all dD&&decide (a.1.1.length<=6),()),()):=by
 obtain⟨⟨ns,u⟩,bV⟩:=a;obtain⟨hl,hn⟩:=hs;have hl:ns.length<=2097152:=hl;have key:ID ((ns,((0:Int),())),())=some (bif allI (fun _ n=>dD n) 0 ns then .inr ((ns,()),()) else .inl ((false,()),())):=by
  refine fX Bk ns (fun i=>((ns,((i:Int),())),())) _ _ _ (fun i x hx=>?_) ?_
  ·have hi:=cU hx;have hw:au i:=by unfold au;omega
   have hb:=hn x (List.mem_of_getElem? hx);simp only[Bk,cf hi,cond_true,b5,hx,Option.bind_some];rw[Rn _ hb.1 hb.2];simp only[Option.bind_some,bX hw];cases dD x<;>rfl
  ·simp only[Bk,dx,cond_false]
 rw[gT] at key;simp only[f141,key,Option.bind_some];cases List.all ns dD with
 |false=>rfl
 |true=>have:=Dc ns.length 6;simp only[cond_true,Bool.true_and];rw[<-this];rfl
theorem ahN(a)(hs:ua a.1.1):Cv a=some ((a.1.1.all dD,()),()):=by
 obtain⟨⟨ns,u⟩,bV⟩:=a;obtain⟨hl,hn⟩:=hs;have hl:ns.length<=2097152:=hl;have key:F2 (((),(ns,((ns.length:Int),((0:Int),())))),())=some (bif allI (fun _ n=>dD n) 0 ns then .inr ((),()) else .inl ((false,()),())):=by
  refine fX zk ns (fun i=>(((),(ns,((ns.length:Int),((i:Int),())))),())) _ _ _ (fun i x hx=>?_) ?_
  ·have hi:=cU hx;have hw:au i:=by unfold au;omega
   have hb:=hn x (List.mem_of_getElem? hx);simp only[zk,cf hi,cond_true,b5,hx,Option.bind_some];rw[yS _ hb.1 hb.2];simp only[Option.bind_some,bX hw];cases dD x<;>rfl
  ·simp only[zk,dx,cond_false]
 rw[gT] at key;simp only[Cv,key,Option.bind_some];cases List.all ns dD<;>rfl
def j0:List B->List B->Bool
 |_,[]=>false
 |acc,x::r=>acc.contains x||j0 (acc++[x]) r
theorem aln(xs:List B):∀(r:List B) (k:Nat),r=xs.drop k->allI (fun i x=>!((xs.take i).contains x)) k r=!j0 (xs.take k) r:=by
 intro r;induction r with
 |nil=>intro k _;rfl
 |cons x r ih=>
  intro k hr;have c':r=xs.drop (k+1):=by
   have:=congrArg List.tail hr;simpa using this
  have hx:xs[k]? =some x:=by
   have:=congrArg (fun l=>l[0]?) hr
   simpa using this.symm
  have e1:xs.take (k+1)=xs.take k++[x]:=by rw[List.take_add_one,hx];rfl
  simp only[allI,j0,ih (k+1) c',e1,Bool.not_or]
theorem anQ(bj:List B)(x:B):bj.all (fun y=>!(y==x))=!bj.contains x:=by
 induction bj with
 |nil=>rfl
 |cons y bj ih=>
  simp only[List.all_cons,ih,List.contains_cons,Bool.not_or];congr 2
  cases h:y==x with
  |true=>rw[eq_of_beq h];simp
  |false=>
   cases h2:x==y with
   |true=>rw[eq_of_beq h2] at h;simp at h
   |false=>rfl
theorem ahC(a)(hs:ci a.1.1.length):f142 a=some ((j0 [] a.1.1,()),()):=by
 obtain⟨⟨xs,u⟩,bV⟩:=a;have hs:xs.length<=2097152:=hs;have inner:∀(i:Nat) (x:B),xs[i]? =some x->FW ((xs,((i:Int),((0:Int),()))),())=some (bif !((xs.take i).contains x) then .inr ((xs,((i:Int),())),()) else .inl ((true,()),())):=by
  intro i x hx;have hi:=cU hx;have hl:(xs.take i).length=i:=by rw[List.length_take];omega
  have:=fX zf (xs.take i) (fun k=>((xs,((i:Int),((k:Int),()))),())) (fun _ y=>!(y==x)) (.inl ((true,()),())) (.inr ((xs,((i:Int),())),())) (fun k y hy=>?_) ?_
  ·have:=this;rw[gT,anQ] at this;exact this
  ·have hk:=cU hy;rw[hl] at hk;have hw:au k:=by unfold au;omega
   have eb:xs[k]? =some y:=by
    rw[List.getElem?_take,if_pos hk] at hy;exact hy
   simp only[zf,cf hk,cond_true,b5,eb,hx,Option.bind_some,bX hw];cases (y==x)<;>rfl
  ·simp only[zf,hl,dx,cond_false]
 have key:IC ((xs,((0:Int),())),())=some (bif allI (fun i x=>!((xs.take i).contains x)) 0 xs then .inr ((),()) else .inl ((true,()),())):=by
  refine fX Bj xs (fun i=>((xs,((i:Int),())),())) _ _ _ (fun i x hx=>?_) ?_
  ·have hi:=cU hx;have hw:au i:=by unfold au;omega
   simp only[Bj,cf hi,cond_true,inner i x hx,Option.bind_some];cases (xs.take i).contains x
   ·simp only[Bool.not_false,cond_true,bX hw]
   ·rfl
  ·simp only[Bj,dx,cond_false]
 rw[aln xs xs 0 rfl] at key;simp only[f142,key,Option.bind_some,List.take_zero];cases j0 [] xs<;>rfl
def qP(name:B)(ns:List bx):Bool:=ns.all dD&&decide (ns.length<=6)&&!j0 [] (name::ns.map (·.name))
theorem ahB(a)(hs:ua a.1.2.1)(hn:ci a.1.1.length):f89 a=some ((qP a.1.1 a.1.2.1,()),()):=by
 obtain⟨⟨name,ns,u⟩,bV⟩:=a;have hl:ns.length<=2097152:=hs.1;have key:JE ((ns,((),((0:Int),()))),(([name]:List B),()))=some (((ns,((),())),((name::ns.map (·.name)),()))):=by
  have:=QR Cd ns (fun i (out:List B)=>((ns,((),((i:Int),()))),(out,()))) (fun(n:bx) out=>out++[n.name]) (fun out=>(((ns,((),())),(out,())):aC BG)) (fun i out=>out.length=i+1) [name] rfl (fun i x out hx dr=>?_) (fun out _=>?_)
  ·refine this.trans ?_
   have e:∀(r:List bx) (out:List B),r.foldl (fun s x=>s++[x.name]) out=out++r.map (·.name):=by
    intro r;induction r with
    |nil=>intro out;simp
    |cons n r ih=>intro out;simp[ih]
   rw[e];rfl
  ·have hi:=cU hx;have hw:au i:=by unfold au;omega
   refine⟨?_,by simp[dr]⟩
   simp only[Cd,cf hi,cond_true,b5,hx,Option.bind_some];rw[di (by decide) (by unfold au;simp only[List.length_cons,List.length_nil];omega)]
   simp only[Option.bind_some,bX hw]
  ·simp only[Cd,dx,cond_false]
 simp only[f89,key,Option.bind_some];rw[ahD _ hs];simp only[Option.bind_some];unfold qP;cases az:(List.all ns dD&&decide (ns.length<=6)) with
 |false=>rfl
 |true=>
  simp only[Bool.and_eq_true,decide_eq_true_eq] at az;have aAz:=ahC ((name::ns.map (·.name),()),()) (show(name::ns.map (·.name)).length<=2097152 by simp only[List.length_cons,List.length_map];omega)
  simp only[cond_true,Bool.true_and,aAz,Option.bind_some]
theorem alN(a)(hs:ci a.1.1.length):∃n:Int,f197 a=some ((n,()),())/\decide (n>=0)=a.1.1.contains a.1.2.1:=by
 obtain⟨⟨xs,x,u⟩,bV⟩:=a;have hs:xs.length<=2097152:=hs;have key:Ir ((xs,(x,((xs.length:Int),((0:Int),())))),())=_:=FS A9 xs (fun i (_:Unit)=>((xs,(x,((xs.length:Int),((i:Int),())))),()))
  (fun i y _=>some (bif x==y then .inr ((.inl (((i:Int),()),())):aC sO) else .inl ())) (fun _=>.inr ((),())) (fun i y s hy=>?_) (fun s=>?_) ()
 ·have fold:∀(r:List B) (k:Nat),∃n:Int,(eV (fun i y (_:Unit)=>some (bif x==y then .inr ((.inl (((i:Int),()),())):aC sO) else .inl ())) (fun _=>(.inr ((),()):aC sO)) k r ()).bind (fun asX=>
    (match asX with
    |.inl asW=>some ((asW.1.1,()),())
    |.inr aBN=>some ((((-1):Int),()),()):Option KL.J))=some ((n,()),())/\decide (n>=0)=r.contains x:=by
   intro r;induction r with
   |nil=>intro k;exact⟨-1,rfl,rfl⟩
   |cons y r ih=>
    intro k;simp only[eV,List.contains_cons];cases hxy:x==y with
    |true=>exact⟨k,rfl,by simp⟩
    |false=>
     obtain⟨n,h1,h2⟩:=ih (k+1);exact⟨n,h1,by simpa using h2⟩
  obtain⟨n,h1,h2⟩:=fold xs 0;refine⟨n,?_,h2⟩;simp only[f197];rw[key];exact h1
 ·have hi:=cU hy;have hw:au i:=by unfold au;omega
  simp only[A9,cf hi,cond_true,b5,hy,Option.bind_some,bX hw];cases x==y<;>rfl
 ·simp only[A9,dx,cond_false]
theorem agC(a)(hs:ci a.1.1.length):f150 a=some ((a.1.1.contains a.1.2.1,()),()):=by
 obtain⟨n,h1,h2⟩:=alN ((a.1.1,(a.1.2.1,())),()) hs;simp only[f150,h1,Option.bind_some,h2]
theorem ajL(a)(hs:ci a.1.1.length):f149 a=some (((),()),(a.1.1,())):=by
 obtain⟨⟨xs,u⟩,bV⟩:=a;have hs:xs.length<=2097152:=hs;have h2:(b9 16 ([]:List B) xs).bind (fun x=>some (((),()),(x,())))=(some (((),()),(xs,())):Option KN.J):=by
  rw[di (by decide) (by unfold au;simp only[List.length_nil];omega)];rfl
 simp only[f149];rw[h2];unfold qy;split
 ·rfl
 ·rename_i h;exact absurd (fun he:xs=[]=>by subst he;rfl) h
theorem aeQ(a)(hs:ua a.1.1)(hm:a.1.2.2.1.length<=1):Cu a=some ((j0 a.1.2.2.1 (a.1.1.map (·.name)),()),()):=by
 obtain⟨⟨ns,nQ,more,u⟩,bV⟩:=a;have hl:ns.length<=2097152:=hs.1;have hm:more.length<=1:=hm;have hc:=ajL ((more,()),()) (show more.length<=2097152 by omega)
 have key:(F1 (((),((),(ns,((ns.length:Int),((0:Int),()))))),(more,())))=_:=l_ zj ns (fun i (out:List B)=>(((),((),(ns,((ns.length:Int),((i:Int),()))))),(out,())))
  (fun i (n:bx) out=>some (bif out.contains n.name then .inr ((.inl ((true,()),())):aC sA) else .inl (out++[n.name]))) (fun _=>.inr ((),())) (fun i out=>out.length<=i+1) more (by omega) (fun i x out hx dr=>?_) (fun out _=>?_)
 ·have fold:∀(r:List bx) (k:Nat) (out:List B),(eV (fun i (n:bx) out=>some (bif out.contains n.name then .inr ((.inl ((true,()),())):aC sA) else .inl (out++[n.name]))) (fun _=>(.inr ((),()):aC sA)) k r out)=
    some (bif j0 out (r.map (·.name)) then .inl ((true,()),()) else .inr ((),())):=by
   intro r;induction r with
   |nil=>intro k out;rfl
   |cons n r ih=>
    intro k out;simp only[eV,List.map_cons,j0];cases out.contains n.name with
    |true=>rfl
    |false=>simp only[cond_false,Bool.false_or];exact ih _ _
  rw[fold] at key;simp only[Cu,hc,Option.bind_some,key];cases j0 more (ns.map (·.name))<;>rfl
 ·have hi:=cU hx;have hw:au i:=by unfold au;omega
  refine⟨?_,fun aN aj=>?_⟩
  ·simp only[zj,cf hi,cond_true,b5,hx,Option.bind_some,f104];rw[agC _ (show ci out.length by show out.length<=2097152;omega)]
   simp only[Option.bind_some];cases az:out.contains x.name with
   |true=>rfl
   |false=>
    simp only[cond_false];rw[di (by decide) (by unfold au;simp only[List.length_cons,List.length_nil];omega)]
    simp only[Option.bind_some,bX hw,Option.map_some]
  ·simp only[Option.some.injEq] at aj;cases az:out.contains x.name with
   |true=>rw[az] at aj;cases aj
   |false=>
    rw[az] at aj;simp only[cond_false,Sum.inl.injEq] at aj;subst aj;simp only[List.length_append,List.length_cons,List.length_nil];omega
 ·simp only[zj,dx,cond_false]
abbrev i146:Shape:=⟨[(0,.am (.d (.int .u8)))],[],29⟩
abbrev YG:Shape:=⟨[ap 2],[],29⟩
noncomputable def f146(a:i146.J):Option YG.J:=
 bif(decide (a.1.1>=(97:Int))) then
 bif(!(decide (a.1.1<=(122:Int)))) then
 bif(decide (a.1.1>=(48:Int))) then
 bif(!(decide (a.1.1<=(57:Int)))) then
 bif(!(a.1.1==(46:Int))) then
 bif(!(a.1.1==(95:Int))) then
 some (((a.1.1==(45:Int)),()),())
else
 some ((true,()),())
else
 some ((true,()),())
else
 some ((true,()),())
else
 bif(!(a.1.1==(46:Int))) then
 bif(!(a.1.1==(95:Int))) then
 some (((a.1.1==(45:Int)),()),())
else
 some ((true,()),())
else
 some ((true,()),())
else
 some ((true,()),())
else
 bif(decide (a.1.1>=(48:Int))) then
 bif(!(decide (a.1.1<=(57:Int)))) then
 bif(!(a.1.1==(46:Int))) then
 bif(!(a.1.1==(95:Int))) then
 some (((a.1.1==(45:Int)),()),())
else
 some ((true,()),())
else
 some ((true,()),())
else
 some ((true,()),())
else
 bif(!(a.1.1==(46:Int))) then
 bif(!(a.1.1==(95:Int))) then
 some (((a.1.1==(45:Int)),()),())
else
 some ((true,()),())
else
 some ((true,()),())
noncomputable def Ds:aD:=aH ad Tryz.f146 i146 YG [] f146
theorem z146:aB O 146 Ds:=aK g0 Tryz.func146 (by kernel_rfl) ae (fun y=>by kernel_rfl) fun a=>by kernel_rfl
noncomputable abbrev aze:a_:=[(75,oS),(146,Ds)]
theorem ac8:aR O (aX ad aze):=aV ⟨z75,z146,⟨⟩⟩
abbrev BL:Shape:=⟨[ak 0,ag 3],[],26⟩
abbrev Jd:List aP:=[(.ret,⟨[ap 2],[],26⟩),(.exit 0,⟨[ak 0],[],26⟩)]
noncomputable def Ca(y:BL.J):bG BL Jd:=
 bif(decide (y.1.2.1<(y.1.1.length:Int))) then
(aO y.1.1 y.1.2.1).bind fun a=>
(f146 (((a.toNat:Int),()),())).bind fun b=>
 bif(!b.1.1) then
 some (.inr (.inl ((false,()),())))
else
 some (.inl ((y.1.1,(IntKind.i64.wrap (y.1.2.1+(1:Int))),()),()))
else
 some (.inr (.inr ((y.1.1,()),())))
noncomputable def JB:BL.J->Option (aC Jd):=bu Ca
theorem aov:aT O (an (codeOf Tryz.f91) 1 26) (aU BL Jd JB):=bI ac8 (by kernel_rfl) ae fun y=>by kernel_rfl
abbrev i91:Shape:=⟨[ak 0],[],26⟩
abbrev aa3:Shape:=⟨[ap 2],[],26⟩
noncomputable def f91(a:i91.J):Option aa3.J:=
(JB ((a.1.1,(0:Int),()),())).bind fun b=>
(match b with
|.inl c=>
 some ((c.1.1,()),())
|.inr d=>
(f75 (((d.1.1.length:Int),(1:Int),(10:Int),()),())).bind fun e=>
 bif e.1.1 then
 bif(!(d.1.1==([46]:B))) then
 some (((!(d.1.1==([46,46]:B))),()),())
else
 some ((false,()),())
else
 some ((false,()),()))
noncomputable def acH:aD:=aH ad Tryz.f91 i91 aa3 [] f91
theorem z91:aB O 91 acH:=aK ac8 Tryz.func91 (by kernel_rfl) (a8 aov ae) (fun y=>by kernel_rfl) fun a=>by kernel_rfl
noncomputable abbrev aut:a_:=[(73,qd),(91,acH)]
theorem aaj:aR O (aX ad aut):=aV ⟨rs,z91,⟨⟩⟩
abbrev Au:Shape:=⟨[ba 3 3000192,ag 4],[a' 3000192 .str 3 0],25⟩
abbrev HI:List aP:=[(.ret,⟨[ap 2],[],25⟩),(.exit 0,⟨[ba 3 3000192],[a' 3000192 .str 3 0],25⟩)]
noncomputable def Ba(y:Au.J):bG Au HI:=
 bif(decide (y.1.2.1<(y.2.1.length:Int))) then
(be y.2.1.length y.1.2.1).bind fun a=>
(y.2.1[a]?).bind fun b=>
(f91 ((b,()),())).bind fun c=>
 bif(!c.1.1) then
 some (.inr (.inl ((false,()),())))
else
 some (.inl (((),(IntKind.i64.wrap (y.1.2.1+(1:Int))),()),y.2.1,()))
else
 some (.inr (.inr (((),()),y.2.1,())))
noncomputable def Iu:Au.J->Option (aC HI):=bu Ba
theorem amr:aT O (an (codeOf Tryz.f193) 1 58) (aU Au HI Iu):=bI aaj (by kernel_rfl) ae fun y=>by kernel_rfl
abbrev i193:Shape:=⟨[ak 0],[],25⟩
abbrev X9:Shape:=⟨[ap 2],[],25⟩
noncomputable def f193(a:i193.J):Option X9.J:=
(f73 ((a.1.1,(47:Int),(IntKind.i64.wrap ((a.1.1.length:Int)+(1:Int))),()),())).bind fun b=>
(Iu (((),(0:Int),()),b.2.1,())).bind fun c=>
(match c with
|.inl d=>
 some ((d.1.1,()),())
|.inr e=>
 some (((decide ((e.2.1.length:Int)<=(5:Int))),()),()))
noncomputable def Lt:aD:=aH ad Tryz.f193 i193 X9 [] f193
theorem z193:aB O 193 Lt:=aK aaj Tryz.func193 (by kernel_rfl) (a8 amr ae) (fun y=>by kernel_rfl) fun a=>by kernel_rfl
noncomputable abbrev azd:a_:=[(75,oS)]
theorem Nx:aR O (aX ad azd):=aV ⟨z75,⟨⟩⟩
abbrev S1:Shape:=⟨[ak 0,ag 3],[],25⟩
abbrev SF:List aP:=[(.norm,⟨[ak 0,ag 3,ap 21],[],25⟩)]
noncomputable def IP(y:S1.J):Option (aC SF):=
(aO y.1.1 y.1.2.1).bind fun a=>
 bif((a.toNat:Int) !=(10:Int)) then
(aO y.1.1 y.1.2.1).bind fun b=>
(f75 (((IntKind.i64.wrap (b.toNat:Int)),(32:Int),(126:Int),()),())).bind fun c=>
 some ((y.1.1,y.1.2.1,(!c.1.1),()),())
else
 some ((y.1.1,y.1.2.1,false,()),())
theorem alW:aT O (an (c4 (an (codeOf Tryz.f92) 1 26)) 52 840) (aU S1 SF IP):=ce Nx (by kernel_rfl) ae fun y=>by kernel_rfl
abbrev BK:Shape:=⟨[ak 0,ag 3],[],25⟩
abbrev Jc:List aP:=[(.ret,⟨[ap 2],[],25⟩),(.exit 0,⟨[ak 0],[],25⟩)]
noncomputable def B'(y:BK.J):bG BK Jc:=
 bif(decide (y.1.2.1<(y.1.1.length:Int))) then
(IP ((y.1.1,y.1.2.1,()),())).bind fun a=>
 bif a.1.2.2.1 then
 some (.inr (.inl ((false,()),())))
else
 some (.inl ((a.1.1,(IntKind.i64.wrap (a.1.2.1+(1:Int))),()),()))
else
 some (.inr (.inr ((y.1.1,()),())))
noncomputable def JA:BK.J->Option (aC Jc):=bu B'
theorem aou:aT O (an (codeOf Tryz.f92) 1 26) (aU BK Jc JA):=bI Nx (by kernel_rfl) (a8 alW ae) fun y=>by kernel_rfl
abbrev i92:Shape:=⟨[ak 0],[],25⟩
abbrev aa2:Shape:=⟨[ap 2],[],25⟩
noncomputable def f92(a:i92.J):Option aa2.J:=
(JA ((a.1.1,(0:Int),()),())).bind fun b=>
(match b with
|.inl c=>
 some ((c.1.1,()),())
|.inr d=>
 some (((decide ((d.1.1.length:Int)<=(80:Int))),()),()))
noncomputable def acG:aD:=aH ad Tryz.f92 i92 aa2 [] f92
theorem av6:aB O 92 acG:=aK Nx Tryz.func92 (by kernel_rfl) (a8 aou ae) (fun y=>by kernel_rfl) fun a=>by kernel_rfl
noncomputable abbrev auW:a_:=[(75,oS),(92,acG),(193,Lt)]
theorem avT:aR O (aX ad auW):=aV ⟨z75,av6,z193,⟨⟩⟩
abbrev i143:Shape:=⟨[b_ 0 [ah,a6,a6,ah]],[],42⟩
abbrev YJ:Shape:=⟨[ap 2],[],42⟩
noncomputable def f143(a:i143.J):Option YJ.J:=
(f193 ((a.1.1.1,()),())).bind fun b=>
 bif(!b.1.1) then
 some ((false,()),())
else
 bif(a.1.1.2.1==(1:Int)) then
(f75 ((a.1.1.2.2.1,(0:Int),(7:Int),()),())).bind fun c=>
 bif c.1.1 then
 some (((a.1.1.2.2.2.1==([]:B)),()),())
else
 some ((false,()),())
else
 bif(a.1.1.2.1==(2:Int)) then
(f75 ((a.1.1.2.2.1,(0:Int),(7:Int),()),())).bind fun d=>
 bif d.1.1 then
(f92 ((a.1.1.2.2.2.1,()),())).bind fun e=>
 some ((e.1.1,()),())
else
 some ((false,()),())
else
 bif(a.1.1.2.1==(3:Int)) then
 bif(a.1.1.2.2.1==(0:Int)) then
(f193 ((a.1.1.2.2.2.1,()),())).bind fun f=>
 some ((f.1.1,()),())
else
 some ((false,()),())
else
 some ((false,()),())
noncomputable def LC:aD:=aH ad Tryz.f143 i143 YJ [] f143
theorem z143:aB O 143 LC:=aK avT Tryz.func143 (by kernel_rfl) ae (fun y=>by kernel_rfl) fun a=>by kernel_rfl
abbrev i231:Shape:=⟨[(0,.am (.d (.int .u8)))],[],29⟩
abbrev XK:Shape:=⟨[ap 2],[],29⟩
noncomputable def f231(a:i231.J):Option XK.J:=
 bif(decide (a.1.1>=(97:Int))) then
 bif(!(decide (a.1.1<=(122:Int)))) then
 bif(decide (a.1.1>=(48:Int))) then
 bif(!(decide (a.1.1<=(57:Int)))) then
 bif(!(a.1.1==(46:Int))) then
 bif(!(a.1.1==(95:Int))) then
 some (((a.1.1==(45:Int)),()),())
else
 some ((true,()),())
else
 some ((true,()),())
else
 some ((true,()),())
else
 bif(!(a.1.1==(46:Int))) then
 bif(!(a.1.1==(95:Int))) then
 some (((a.1.1==(45:Int)),()),())
else
 some ((true,()),())
else
 some ((true,()),())
else
 some ((true,()),())
else
 bif(decide (a.1.1>=(48:Int))) then
 bif(!(decide (a.1.1<=(57:Int)))) then
 bif(!(a.1.1==(46:Int))) then
 bif(!(a.1.1==(95:Int))) then
 some (((a.1.1==(45:Int)),()),())
else
 some ((true,()),())
else
 some ((true,()),())
else
 some ((true,()),())
else
 bif(!(a.1.1==(46:Int))) then
 bif(!(a.1.1==(95:Int))) then
 some (((a.1.1==(45:Int)),()),())
else
 some ((true,()),())
else
 some ((true,()),())
noncomputable def Z5:aD:=aH ad Tryz.f231 i231 XK [] f231
theorem arP:aB O 231 Z5:=aK g0 Tryz.func231 (by kernel_rfl) ae (fun y=>by kernel_rfl) fun a=>by kernel_rfl
noncomputable abbrev aus:a_:=[(231,Z5)]
theorem aai:aR O (aX ad aus):=aV ⟨arP,⟨⟩⟩
abbrev As:Shape:=⟨[ak 0,ag 5,ag 6],[],17⟩
abbrev HH:List aP:=[(.ret,⟨[ap 2],[],17⟩),(.exit 0,⟨[ak 0],[],17⟩)]
noncomputable def A_(y:As.J):bG As HH:=
 bif(decide (y.1.2.2.1<y.1.2.1)) then
(aO y.1.1 y.1.2.2.1).bind fun a=>
(f231 (((a.toNat:Int),()),())).bind fun b=>
 bif(!b.1.1) then
 some (.inr (.inl ((false,()),())))
else
 some (.inl ((y.1.1,y.1.2.1,(IntKind.i64.wrap (y.1.2.2.1+(1:Int))),()),()))
else
 some (.inr (.inr ((y.1.1,()),())))
noncomputable def Is:As.J->Option (aC HH):=bu A_
theorem amp:aT O (an (codeOf Tryz.f195) 1 26) (aU As HH Is):=bI aai (by kernel_rfl) ae fun y=>by kernel_rfl
abbrev i195:Shape:=⟨[ak 0],[],17⟩
abbrev X7:Shape:=⟨[ap 2],[],17⟩
noncomputable def f195(a:i195.J):Option X7.J:=
(Is ((a.1.1,(a.1.1.length:Int),(0:Int),()),())).bind fun b=>
(match b with
|.inl c=>
 some ((c.1.1,()),())
|.inr d=>
 some (((!(d.1.1==([]:B))),()),()))
noncomputable def _k:aD:=aH ad Tryz.f195 i195 X7 [] f195
theorem ar0:aB O 195 _k:=aK aai Tryz.func195 (by kernel_rfl) (a8 amp ae) (fun y=>by kernel_rfl) fun a=>by kernel_rfl
noncomputable abbrev auU:a_:=[(195,_k)]
theorem avR:aR O (aX ad auU):=aV ⟨ar0,⟨⟩⟩
abbrev i147:Shape:=⟨[ak 0],[],18⟩
abbrev YF:Shape:=⟨[ap 2],[],18⟩
noncomputable def f147(a:i147.J):Option YF.J:=
 bif(decide ((a.1.1.length:Int)<=(10:Int))) then
 bif(!(a.1.1==([46]:B))) then
 bif(!(a.1.1==([46,46]:B))) then
(f195 ((a.1.1,()),())).bind fun b=>
 some ((b.1.1,()),())
else
 some ((false,()),())
else
 some ((false,()),())
else
 some ((false,()),())
noncomputable def _O:aD:=aH ad Tryz.f147 i147 YF [] f147
theorem asm:aB O 147 _O:=aK avR Tryz.func147 (by kernel_rfl) ae (fun y=>by kernel_rfl) fun a=>by kernel_rfl
abbrev i196:Shape:=⟨[(0,.am (.d (.int .u8)))],[],9⟩
abbrev X6:Shape:=⟨[ap 2],[],9⟩
noncomputable def f196(a:i196.J):Option X6.J:=
 bif(decide (a.1.1>=(32:Int))) then
 some (((decide (a.1.1<=(126:Int))),()),())
else
 some ((false,()),())
noncomputable def _j:aD:=aH ad Tryz.f196 i196 X6 [] f196
theorem z196:aB O 196 _j:=aK g0 Tryz.func196 (by kernel_rfl) ae (fun y=>by kernel_rfl) fun a=>by kernel_rfl
noncomputable abbrev auT:a_:=[(196,_j)]
theorem LQ:aR O (aX ad auT):=aV ⟨z196,⟨⟩⟩
abbrev QC:Shape:=⟨[ak 0,ag 3,ag 8,ag 9],[],24⟩
abbrev Qj:List aP:=[(.norm,⟨[ak 0,ag 8,ag 9,ap 22],[],24⟩)]
noncomputable def F_(y:QC.J):Option (aC Qj):=
(aO y.1.1 y.1.2.1).bind fun a=>
(f196 (((a.toNat:Int),()),())).bind fun b=>
 bif(!b.1.1) then
(aO y.1.1 y.1.2.1).bind fun c=>
 some ((y.1.1,y.1.2.2.1,y.1.2.2.2.1,((c.toNat:Int) !=(10:Int)),()),())
else
 some ((y.1.1,y.1.2.2.1,y.1.2.2.2.1,false,()),())
theorem aiy:aT O (an (c4 (an (codeOf Tryz.f148) 1 58)) 116 7474) (aU QC Qj F_):=ce LQ (by kernel_rfl) ae fun y=>by kernel_rfl
abbrev AE:Shape:=⟨[ak 0,ag 8,ag 9],[],24⟩
abbrev HT:List aP:=[(.ret,⟨[ap 2],[],24⟩),(.exit 0,⟨[],[],24⟩)]
noncomputable def Bi(y:AE.J):bG AE HT:=
 bif(decide (y.1.2.2.1<y.1.2.1)) then
(F_ ((y.1.1,y.1.2.2.1,y.1.2.1,y.1.2.2.1,()),())).bind fun a=>
 bif a.1.2.2.2.1 then
 some (.inr (.inl ((false,()),())))
else
 some (.inl ((a.1.1,a.1.2.1,(IntKind.i64.wrap (a.1.2.2.1+(1:Int))),()),()))
else
 some (.inr (.inr ((),())))
noncomputable def IA:AE.J->Option (aC HT):=bu Bi
theorem amI:aT O (an (codeOf Tryz.f148) 1 58) (aU AE HT IA):=bI LQ (by kernel_rfl) (a8 aiy ae) fun y=>by kernel_rfl
abbrev i148:Shape:=⟨[ak 0],[],24⟩
abbrev YE:Shape:=⟨[ap 2],[],24⟩
noncomputable def f148(a:i148.J):Option YE.J:=
 bif(decide ((a.1.1.length:Int)>(80:Int))) then
 some ((false,()),())
else
(IA ((a.1.1,(a.1.1.length:Int),(0:Int),()),())).bind fun b=>
(match b with
|.inl c=>
 some ((c.1.1,()),())
|.inr d=>
 some ((true,()),()))
noncomputable def _N:aD:=aH ad Tryz.f148 i148 YE [] f148
theorem z148:aB O 148 _N:=aK LQ Tryz.func148 (by kernel_rfl) (a8 amI ae) (fun y=>by kernel_rfl) fun a=>by kernel_rfl
noncomputable abbrev aur:a_:=[(147,_O)]
theorem LL:aR O (aX ad aur):=aV ⟨asm,⟨⟩⟩
abbrev RY:Shape:=⟨[ay 2 2 0,ay 3 3 0,ak 4],[ax 2 [l3],ax 3 [a6]],17⟩
abbrev RE:List aP:=[(.norm,⟨[ay 2 2 0,ay 3 3 0,ap 16],[ax 2 [l3],ax 3 [a6]],17⟩)]
noncomputable def Hb(y:RY.J):Option (aC RE):=
 bif(!(decide (y.2.2.1.1>(5:Int)))) then
(f147 ((y.1.2.2.1,()),())).bind fun a=>
 some (((),(),(!a.1.1),()),(y.2.1.1,()),(y.2.2.1.1,()),())
else
 some (((),(),true,()),(y.2.1.1,()),(y.2.2.1.1,()),())
theorem akv:aT O (an (kh (an (codeOf Tryz.f199) 1 58)) 117 938) (aU RY RE Hb):=ce LL (by kernel_rfl) ae fun y=>by kernel_rfl
abbrev Aq:Shape:=⟨[ay 2 2 0,ay 3 3 0],[ax 2 [l3],ax 3 [a6]],17⟩
abbrev HG:List aP:=[(.norm,⟨[ay 2 2 0],[ax 2 [l3]],17⟩),(.ret,⟨[ay 2 2 0],[ax 2 [l3]],17⟩)]
noncomputable def sY(x:B)(y:Aq.J):bG Aq HG:=
(Hb (((),(),x,()),(y.2.1.1,()),((IntKind.i64.wrap (y.2.2.1.1+(1:Int))),()),())).bind fun a=>
 bif a.1.2.2.1 then
 some (.inr (.inr (((),()),(false,()),())))
else
 some (.inl (((),(),()),(a.2.1.1,()),(a.2.2.1.1,()),()))
noncomputable def vN(y:Aq.J):Option (aC HG):=
 some (.inl (((),()),(y.2.1.1,()),()))
theorem amn:aT O (an (codeOf Tryz.f199) 1 58) (sI 266 6 Aq HG sY vN):=O7 (eX:=7) LL Wz (by kernel_rfl) (a8 akv ae) (by kernel_rfl) (fun x y=>by kernel_rfl) fun y=>by kernel_rfl
abbrev i199:Shape:=⟨[ak 0],[],17⟩
abbrev X5:Shape:=⟨[ay 2 2 0],[ax 2 [l3]],17⟩
noncomputable def f199(a:i199.J):Option X5.J:=
(bif Nat.ble a.1.1.length kK then iH sY vN (bF (47:UInt8) a.1.1) (((),(),()),(false,()),((0:Int),()),()) else none).bind fun b=>
(match b with
|.inl c=>
 some (((),()),(true,()),())
|.inr d=>
 some (((),()),(d.2.1.1,()),()))
noncomputable def Ls:aD:=aH ad Tryz.f199 i199 X5 [] f199
theorem W8:aB O 199 Ls:=aK LL Tryz.func199 (by kernel_rfl) (a8 amn ae) (fun y=>by kernel_rfl) fun a=>by kernel_rfl
noncomputable abbrev auQ:a_:=[(148,_N),(199,Ls)]
theorem aap:aR O (aX ad auQ):=aV ⟨z148,W8,⟨⟩⟩
abbrev Tf:Shape:=⟨[ay 1 1 0],[ax 1 [ah,a6,a6,ah]],39⟩
abbrev SW:List aP:=[(.norm,⟨[ay 1 1 0,ap 16],[ax 1 [ah,a6,a6,ah]],39⟩)]
noncomputable def IZ(y:Tf.J):Option (aC SW):=
(f199 ((y.2.1.1,()),())).bind fun a=>
 bif(!(!a.2.1.1)) then
 bif(!(decide (y.2.1.2.2.1<(0:Int)))) then
 some (((),(decide (y.2.1.2.2.1>(7:Int))),()),(y.2.1.1,y.2.1.2.1,y.2.1.2.2.1,y.2.1.2.2.2.1,()),())
else
 some (((),true,()),(y.2.1.1,y.2.1.2.1,y.2.1.2.2.1,y.2.1.2.2.2.1,()),())
else
 some (((),true,()),(y.2.1.1,y.2.1.2.1,y.2.1.2.2.1,y.2.1.2.2.2.1,()),())
theorem amG:aT O (an (codeOf Tryz.f152) 1 12) (aU Tf SW IZ):=ce aap (by kernel_rfl) ae fun y=>by kernel_rfl
abbrev i152:Shape:=⟨[b_ 0 [ah,a6,a6,ah]],[],39⟩
abbrev YB:Shape:=⟨[ap 2],[],39⟩
noncomputable def f152(a:i152.J):Option YB.J:=
(IZ (((),()),(a.1.1.1,a.1.1.2.1,a.1.1.2.2.1,a.1.1.2.2.2.1,()),())).bind fun b=>
 bif b.1.2.1 then
 some ((false,()),())
else
 bif(b.2.1.2.1==(1:Int)) then
 some (((b.2.1.2.2.2.1==([]:B)),()),())
else
 bif(b.2.1.2.1==(2:Int)) then
(f148 ((b.2.1.2.2.2.1,()),())).bind fun c=>
 some ((c.1.1,()),())
else
 bif(b.2.1.2.1==(3:Int)) then
 bif(b.2.1.2.2.1==(0:Int)) then
(f199 ((b.2.1.2.2.2.1,()),())).bind fun d=>
 some ((d.2.1.1,()),())
else
 some ((false,()),())
else
 some ((false,()),())
noncomputable def _K:aD:=aH ad Tryz.f152 i152 YB [] f152
theorem z152:aB O 152 _K:=aK aap Tryz.func152 (by kernel_rfl) (a8 amG ae) (fun y=>by kernel_rfl) fun a=>by kernel_rfl
def kg(n:Int):Bool:=(decide (97<=n)&&decide (n<=122))||(decide (48<=n)&&decide (n<=57))||n==46||n==95||n==45
theorem P2(a):f146 a=some ((kg a.1.1,()),()):=by
 obtain⟨⟨n,u⟩,bV⟩:=a;simp only[f146,kg,ge_iff_le];generalize decide ((97:Int)<=n)=b1;generalize decide (n<=(122:Int))=b2;generalize decide ((48:Int)<=n)=b3;generalize decide (n<=(57:Int))=yk;generalize(n==(46:Int))=yj;generalize(n==(95:Int))=N3;generalize(n==(45:Int))=N2;cases b1<;>cases b2<;>cases b3<;>cases yk<;>cases yj<;>cases N3<;>cases N2<;>rfl
theorem ags(a):f231 a=some ((kg a.1.1,()),()):=by
 obtain⟨⟨n,u⟩,bV⟩:=a;simp only[f231,kg,ge_iff_le];generalize decide ((97:Int)<=n)=b1;generalize decide (n<=(122:Int))=b2;generalize decide ((48:Int)<=n)=b3;generalize decide (n<=(57:Int))=yk;generalize(n==(46:Int))=yj;generalize(n==(95:Int))=N3;generalize(n==(45:Int))=N2;cases b1<;>cases b2<;>cases b3<;>cases yk<;>cases yj<;>cases N3<;>cases N2<;>rfl
def kn(s:B):Bool:=s.all (fun b=>kg b.toNat)&&within s.length 1 10&&!(s==[46])&&!(s==[46,46])
theorem ajB(a)(hs:ci a.1.1.length):f91 a=some ((kn a.1.1,()),()):=by
 obtain⟨⟨s,u⟩,bV⟩:=a;have hs:s.length<=2097152:=hs;have key:JB ((s,((0:Int),())),())=some (bif allI (fun _ b=>kg b.toNat) 0 s then .inr ((s,()),()) else .inl ((false,()),())):=by
  refine fX Ca s (fun i=>((s,((i:Int),())),())) _ _ _ (fun i x hx=>?_) ?_
  ·have hi:=cU hx;have hw:au i:=by unfold au;omega
   simp only[Ca,cf hi,cond_true,b5,hx,Option.bind_some,P2,bX hw];cases kg x.toNat<;>rfl
  ·simp only[Ca,dx,cond_false]
 rw[gT] at key;simp only[f91,key,Option.bind_some,kn];cases List.all s (fun b=>kg b.toNat) with
 |false=>rfl
 |true=>
  simp only[cond_true,og,Option.bind_some,Bool.true_and];cases within (s.length:Int) 1 10<;>cases (s==[46])<;>rfl
theorem ajt(a)(hs:ci a.1.1.length):f147 a=some ((kn a.1.1,()),()):=by
 obtain⟨⟨s,u⟩,bV⟩:=a;have hs:s.length<=2097152:=hs;have key:Is ((s,((s.length:Int),((0:Int),()))),())=some (bif allI (fun _ b=>kg b.toNat) 0 s then .inr ((s,()),()) else .inl ((false,()),())):=by
  refine fX A_ s (fun i=>((s,((s.length:Int),((i:Int),()))),())) _ _ _ (fun i x hx=>?_) ?_
  ·have hi:=cU hx;have hw:au i:=by unfold au;omega
   simp only[A_,cf hi,cond_true,b5,hx,Option.bind_some,ags,bX hw];cases kg x.toNat<;>rfl
  ·simp only[A_,dx,cond_false]
 rw[gT] at key;have xL:f195 ((s,()),())=some ((List.all s (fun b=>kg b.toNat)&&!(s==([]:B)),()),()):=by
  simp only[f195,key,Option.bind_some];cases List.all s (fun b=>kg b.toNat)<;>rfl
 have h1:decide ((1:Int)<=(s.length:Int))=!(s==([]:B)):=by
  cases s with
  |nil=>rfl
  |cons b r=>
   have:((b::r)==([]:B))=false:=rfl;simp only[List.length_cons];rw[this];simp only[Bool.not_false,decide_eq_true_eq];omega
 simp only[f147,xL,Option.bind_some,kn,within,h1];cases decide ((s.length:Int)<=10)<;>cases (s==[46])<;>cases (s==[46,46])<;>cases List.all s (fun b=>kg b.toNat)<;>cases (s==([]:B))<;>rfl
def gn(s:B):Bool:=(bF 47 s).all kn&&decide ((bF 47 s).length<=5)
theorem Gh(a)(hs:ci a.1.1.length):f193 a=some ((gn a.1.1,()),()):=by
 obtain⟨⟨s,u⟩,bV⟩:=a;have hs:s.length<=2097152:=hs;have hlen:=nZ 47 s;have fR:f73 ((s,((47:Int),((IntKind.i64.wrap ((s.length:Int)+(1:Int))),()))),())=some (((),()),(bF 47 s,())):=
  vz 47 _ hs rfl (bX (by unfold au;omega))
 have key:Iu (((),((0:Int),())),(bF 47 s,()))=some (bif allI (fun _ x=>kn x) 0 (bF 47 s) then .inr (((),()),(bF 47 s,())) else .inl ((false,()),())):=by
  refine fX Ba (bF 47 s) (fun i=>(((),((i:Int),())),(bF 47 s,()))) _ _ _ (fun i x hx=>?_) ?_
  ·have hi:=cU hx;have hw:au i:=by unfold au;omega
   have hxl:x.length<=s.length:=qp 47 s x (List.mem_of_getElem? hx);simp only[Ba,cf hi,cond_true,fx hi,hx,Option.bind_some];rw[ajB _ (show x.length<=2097152 by omega)]
   simp only[Option.bind_some,bX hw];cases kn x<;>rfl
  ·simp only[Ba,dx,cond_false]
 rw[gT] at key;simp only[f193,fR,Option.bind_some,key,gn];cases List.all (bF 47 s) kn with
 |false=>rfl
 |true=>have:=Dc (bF 47 s).length 5;simp only[cond_true,Bool.true_and];rw[<-this];rfl
theorem Gk(a)(hs:ci a.1.1.length):f199 a=some (((),()),((gn a.1.1,()),())):=by
 obtain⟨⟨s,u⟩,bV⟩:=a;have hs:s.length<=2097152:=hs;have K_:Nat.ble s.length kK=true:=Nat.ble_eq_true_of_le (by unfold kK;omega)
 have fold:∀(r:List B) (k:Nat),(∀x,x∈r->x.length<=s.length)->k<=5->
   iH sY vN r (((),((),())),((false,()),(((k:Int),()),())))=
    some (bif r.all kn&&decide (k+r.length<=5) then(.inl (((),()),((false,()),()))) else(.inr (((),()),((false,()),())))):=by
  intro r;induction r with
  |nil=>
   intro k _ hk;have:decide (k+0<=5)=true:=by simpa using hk
   simp only[iH,vN,List.all_nil,List.length_nil,this,Bool.and_self,cond_true]
  |cons x r ih=>
   intro k hr hk;have hx:=hr x List.mem_cons_self;have k1:=ajt ((x,()),()) (show x.length<=2097152 by omega)
   have hw:=bX (i:=k) (by unfold au;omega)
   have xM:decide (((k+1:Nat):Int)>5)=!decide (k+1<=5):=by by_cases h:k+1<=5<;>simp only[h,decide_true,decide_false,Bool.not_true,Bool.not_false,decide_eq_true_eq,decide_eq_false_iff_not]<;>omega
   have step:sY x (((),((),())),((false,()),(((k:Int),()),())))=
     some (bif kn x&&decide (k+1<=5) then .inl (((),((),())),((false,()),((((k+1:Nat):Int),()),()))) else .inr (.inr (((),()),((false,()),())))):=by
    simp only[sY,Hb,hw,xM,Bool.not_not,k1,Option.bind_some];cases decide (k+1<=5) with
    |false=>cases kn x<;>rfl
    |true=>cases kn x<;>rfl
   rw[iH,step,List.all_cons];cases hn:kn x with
   |false=>rfl
   |true=>
    simp only[Bool.true_and];cases az:decide (k+1<=5) with
    |false=>
     have:decide (k+(x::r).length<=5)=false:=by simp only[decide_eq_false_iff_not,List.length_cons] at az ⊢;omega
     rw[this];simp
    |true=>
     simp only[cond_true];rw[ih (k+1) (fun y hy=>hr y (List.mem_cons_of_mem _ hy)) (by simpa using az)]
     have e1:k+1+r.length=k+(x::r).length:=by simp only[List.length_cons];omega
     rw[e1]
 have key:=fold (bF (47:UInt8) s) 0 (fun x hx=>qp 47 s x hx) (Nat.zero_le _)
 have KU:iH sY vN (bF (47:UInt8) s) (((),((),())),((false,()),(((0:Int),()),())))=some (bif gn s then(.inl (((),()),((false,()),()))) else(.inr (((),()),((false,()),())))):=by
  refine key.trans ?_
  unfold gn;rw[Nat.zero_add]
 simp only[f199,K_,cond_true,KU,Option.bind_some];cases gn s<;>rfl
def oh(s:B):Bool:=s.all (fun b=>(b.toNat:Int)==10||within b.toNat 32 126)&&decide (s.length<=80)
theorem ahu(b:UInt8):IntKind.i64.wrap (b.toNat:Int)=(b.toNat:Int):=by
 have:=b.toNat_lt;rw[cT (by omega) (by omega)]
theorem ajy(a)(hs:ci a.1.1.length):f92 a=some ((oh a.1.1,()),()):=by
 obtain⟨⟨s,u⟩,bV⟩:=a;have hs:s.length<=2097152:=hs;have key:JA ((s,((0:Int),())),())=some (bif allI (fun _ b=>(b.toNat:Int)==10||within b.toNat 32 126) 0 s then .inr ((s,()),()) else .inl ((false,()),())):=by
  refine fX B' s (fun i=>((s,((i:Int),())),())) _ _ _ (fun i x hx=>?_) ?_
  ·have hi:=cU hx;have hw:au i:=by unfold au;omega
   have hne:((x.toNat:Int) !=10)=!((x.toNat:Int)==10):=rfl;simp only[B',cf hi,cond_true,IP,b5,hx,Option.bind_some,hne,og,ahu];cases ((x.toNat:Int)==10)<;>cases within (x.toNat:Int) 32 126<;>simp only[Bool.not_true,Bool.not_false,cond_true,cond_false,Option.bind_some,bX hw,Bool.or_true,Bool.true_or,Bool.or_false]
  ·simp only[B',dx,cond_false]
 rw[gT] at key;simp only[f92,key,Option.bind_some,oh];cases List.all s (fun b=>(b.toNat:Int)==10||within b.toNat 32 126) with
 |false=>rfl
 |true=>have:=Dc s.length 80;simp only[cond_true,Bool.true_and];rw[<-this];rfl
theorem afv(a):f196 a=some ((within a.1.1 32 126,()),()):=by
 simp only[f196,within,ge_iff_le];cases decide ((32:Int)<=a.1.1)<;>rfl
theorem agx(a)(hs:ci a.1.1.length):f148 a=some ((oh a.1.1,()),()):=by
 obtain⟨⟨s,u⟩,bV⟩:=a;have hs:s.length<=2097152:=hs;have key:IA ((s,((s.length:Int),((0:Int),()))),())=some (bif allI (fun _ b=>(b.toNat:Int)==10||within b.toNat 32 126) 0 s then .inr ((),()) else .inl ((false,()),())):=by
  refine fX Bi s (fun i=>((s,((s.length:Int),((i:Int),()))),())) _ _ _ (fun i x hx=>?_) ?_
  ·have hi:=cU hx;have hw:au i:=by unfold au;omega
   have hne:((x.toNat:Int) !=10)=!((x.toNat:Int)==10):=rfl;simp only[Bi,cf hi,cond_true,F_,b5,hx,Option.bind_some,hne,afv];cases ((x.toNat:Int)==10)<;>cases within (x.toNat:Int) 32 126<;>simp only[Bool.not_true,Bool.not_false,cond_true,cond_false,Option.bind_some,bX hw,Bool.or_true,Bool.true_or,Bool.or_false]
  ·simp only[Bi,dx,cond_false]
 rw[gT] at key;have ayr:decide ((s.length:Int)>80)=!decide (s.length<=80):=by by_cases h:s.length<=80<;>simp only[h,decide_true,decide_false,Bool.not_true,Bool.not_false,decide_eq_true_eq,decide_eq_false_iff_not]<;>omega
 simp only[f148,key,Option.bind_some,oh,ayr];cases decide (s.length<=80)<;>cases List.all s (fun b=>(b.toNat:Int)==10||within b.toNat 32 126)<;>rfl
def eN(e:aw):Bool:=gn e.path&&(bif e.kind==1 then within e.mode 0 7&&e.text==[] else bif e.kind==2 then within e.mode 0 7&&oh e.text else bif e.kind==3 then e.mode==0&&gn e.text else false)
abbrev lX(e:aw):Prop:=ci e.path.length/\ci e.text.length
theorem P1(a)(h1:ci a.1.1.1.length)(h2:ci a.1.1.2.2.2.1.length):f143 a=some ((eN ⟨a.1.1.1,a.1.1.2.1,a.1.1.2.2.1,a.1.1.2.2.2.1⟩,()),()):=by
 obtain⟨⟨⟨p,k,m,t,u⟩,bV⟩,nB⟩:=a;have e1:=Gh ((p,()),()) h1;have e2:=Gh ((t,()),()) h2;have br:=ajy ((t,()),()) h2;simp only[f143,e1,e2,br,og,Option.bind_some,eN];cases gn p with
 |false=>rfl
 |true=>cases (k==1)<;>cases (k==2)<;>cases (k==3)<;>cases within m 0 7<;>cases (m==0)<;>rfl
theorem ahL(a)(h1:ci a.1.1.1.length)(h2:ci a.1.1.2.2.2.1.length):f152 a=some ((eN ⟨a.1.1.1,a.1.1.2.1,a.1.1.2.2.1,a.1.1.2.2.2.1⟩,()),()):=by
 obtain⟨⟨⟨p,k,m,t,u⟩,bV⟩,nB⟩:=a;have e1:=Gk ((p,()),()) h1;have e2:=Gk ((t,()),()) h2;have br:=agx ((t,()),()) h2;have hm:within m 0 7=true\/(m==0)=false:=by
  cases h:(m==0) with
  |false=>exact .inr rfl
  |true=>left;rw[show m=(0:Int) from eq_of_beq h];rfl
 simp only[f152,IZ,e1,e2,br,Option.bind_some,eN,oO,nN,Bool.not_not];unfold within at hm ⊢;cases gn p with
 |false=>rfl
 |true=>
  cases h0:decide ((0:Int)<=m)<;>cases ic:decide (m<=7)<;>rw[h0,ic] at hm<;>cases acx:(m==0)<;>rw[acx] at hm<;>
   first|(simp at hm;done)|(simp only[Bool.not_true,Bool.not_false,cond_true,cond_false,Option.bind_some,acx,e2,br,Bool.and_true,Bool.and_false,Bool.true_and,Bool.false_and];cases (k==1)<;>cases (k==2)<;>cases (k==3)<;>rfl)
abbrev At:Shape:=⟨[aL 0 .entry,ak 1,ag 4,ap 5,ag 6],[],36⟩
abbrev sP:List aP:=[(.exit 0,⟨[aL 0 .entry,ak 1,ag 4,ap 5,ag 6],[],36⟩)]
noncomputable def A'(y:At.J):bG At sP:=
 bif(decide (y.1.2.2.2.2.1<(y.1.1.length:Int))) then
(aO y.1.1 y.1.2.2.2.2.1).bind fun a=>
 bif(Op.bytesLess a.path y.1.2.1) then
 some (.inl ((y.1.1,y.1.2.1,y.1.2.2.1,y.1.2.2.2.1,(IntKind.i64.wrap (y.1.2.2.2.2.1+(1:Int))),()),()))
else
 some (.inr ((y.1.1,y.1.2.1,y.1.2.2.1,y.1.2.2.2.1,y.1.2.2.2.2.1,()),()))
else
 some (.inr ((y.1.1,y.1.2.1,y.1.2.2.1,y.1.2.2.2.1,y.1.2.2.2.2.1,()),()))
noncomputable def It:At.J->Option (aC sP):=bu A'
theorem amq:aT O (an (codeOf Tryz.f194) 1 28) (aU At sP It):=bI g0 (by kernel_rfl) ae fun y=>by kernel_rfl
abbrev i194:Shape:=⟨[aL 0 .entry,ak 1],[],36⟩
abbrev X8:Shape:=⟨[ag 4,ap 5],[],36⟩
noncomputable def f194(a:i194.J):Option X8.J:=
(It ((a.1.1,a.1.2.1,(0:Int),false,(0:Int),()),())).bind fun b=>
 bif(decide (b.1.2.2.2.2.1<(b.1.1.length:Int))) then
(aO b.1.1 b.1.2.2.2.2.1).bind fun c=>
 some ((b.1.2.2.2.2.1,(c.path==b.1.2.1),()),())
else
 some ((b.1.2.2.2.2.1,false,()),())
noncomputable def Dr:aD:=aH ad Tryz.f194 i194 X8 [] f194
theorem z194:aB O 194 Dr:=aK g0 Tryz.func194 (by kernel_rfl) (a8 amq ae) (fun y=>by kernel_rfl) fun a=>by kernel_rfl
noncomputable abbrev auV:a_:=[(194,Dr)]
theorem avS:aR O (aX ad auV):=aV ⟨z194,⟨⟩⟩
abbrev i144:Shape:=⟨[aL 0 .entry,ak 1],[],26⟩
abbrev YI:Shape:=⟨[ap 4],[],26⟩
noncomputable def f144(a:i144.J):Option YI.J:=
(f194 ((a.1.1,a.1.2.1,()),())).bind fun b=>
 bif(!(a.1.2.1==([]:B))) then
 bif b.1.2.1 then
(aO a.1.1 b.1.1).bind fun c=>
 some (((c.kind==(1:Int)),()),())
else
 some ((false,()),())
else
 some ((true,()),())
noncomputable def LB:aD:=aH ad Tryz.f144 i144 YI [] f144
theorem Xa:aB O 144 LB:=aK avS Tryz.func144 (by kernel_rfl) ae (fun y=>by kernel_rfl) fun a=>by kernel_rfl
abbrev AF:Shape:=⟨[ak 0,ag 3],[],18⟩
abbrev HU:List aP:=[(.ret,⟨[ak 2],[],18⟩),(.exit 0,⟨[],[],18⟩)]
noncomputable def I0(y:AF.J):bG AF HU:=
 bif(decide (y.1.2.1>=(0:Int))) then
(aO y.1.1 y.1.2.1).bind fun a=>
 bif((a.toNat:Int)==(47:Int)) then
(bm y.1.1 (0:Int) y.1.2.1).bind fun b=>
 some (.inr (.inl ((b,()),())))
else
 some (.inl ((y.1.1,(IntKind.i64.wrap (y.1.2.1-(1:Int))),()),()))
else
 some (.inr (.inr ((),())))
noncomputable def IB:AF.J->Option (aC HU):=bu I0
theorem amJ:aT O (an (codeOf Tryz.f145) 1 26) (aU AF HU IB):=bI g0 (by kernel_rfl) ae fun y=>by kernel_rfl
abbrev i145:Shape:=⟨[ak 0],[],18⟩
abbrev YH:Shape:=⟨[ak 2],[],18⟩
noncomputable def f145(a:i145.J):Option YH.J:=
(IB ((a.1.1,(IntKind.i64.wrap ((a.1.1.length:Int)-(1:Int))),()),())).bind fun b=>
(match b with
|.inl c=>
 some ((c.1.1,()),())
|.inr d=>
 some ((([]:B),()),()))
noncomputable def LA:aD:=aH ad Tryz.f145 i145 YH [] f145
theorem z145:aB O 145 LA:=aK g0 Tryz.func145 (by kernel_rfl) (a8 amJ ae) (fun y=>by kernel_rfl) fun a=>by kernel_rfl
abbrev Aj:Shape:=⟨[ak 0,(1,.am (.d (.int .u8))),ag 5],[],19⟩
abbrev Hy:List aP:=[(.ret,⟨[ag 4],[],19⟩),(.exit 0,⟨[],[],19⟩)]
noncomputable def IU(y:Aj.J):bG Aj Hy:=
 bif(decide (y.1.2.2.1>=(0:Int))) then
(aO y.1.1 y.1.2.2.1).bind fun a=>
 bif((a.toNat:Int)==y.1.2.1) then
 some (.inr (.inl ((y.1.2.2.1,()),())))
else
 some (.inl ((y.1.1,y.1.2.1,(IntKind.i64.wrap (y.1.2.2.1-(1:Int))),()),()))
else
 some (.inr (.inr ((),())))
noncomputable def Io:Aj.J->Option (aC Hy):=bu IU
theorem amd:aT O (an (codeOf Tryz.f267) 1 26) (aU Aj Hy Io):=bI g0 (by kernel_rfl) ae fun y=>by kernel_rfl
abbrev i267:Shape:=⟨[ak 0,(1,.am (.d (.int .u8)))],[],19⟩
abbrev Xz:Shape:=⟨[ag 4],[],19⟩
noncomputable def f267(a:i267.J):Option Xz.J:=
(Io ((a.1.1,a.1.2.1,(IntKind.i64.wrap ((a.1.1.length:Int)-(1:Int))),()),())).bind fun b=>
(match b with
|.inl c=>
 some ((c.1.1,()),())
|.inr d=>
 some ((((-1):Int),()),()))
noncomputable def ZU:aD:=aH ad Tryz.f267 i267 Xz [] f267
theorem arF:aB O 267 ZU:=aK g0 Tryz.func267 (by kernel_rfl) (a8 amd ae) (fun y=>by kernel_rfl) fun a=>by kernel_rfl
noncomputable abbrev aua:a_:=[(267,ZU)]
theorem avx:aR O (aX ad aua):=aV ⟨arF,⟨⟩⟩
abbrev i233:Shape:=⟨[ak 0,(1,.am (.d (.int .u8)))],[],8⟩
abbrev XJ:Shape:=⟨[ag 4],[],8⟩
noncomputable def f233(a:i233.J):Option XJ.J:=
(f267 ((a.1.1,a.1.2.1,()),())).bind fun b=>
 some ((b.1.1,()),())
noncomputable def Z4:aD:=aH ad Tryz.f233 i233 XJ [] f233
theorem z233:aB O 233 Z4:=aK avx Tryz.func233 (by kernel_rfl) ae (fun y=>by kernel_rfl) fun a=>by kernel_rfl
noncomputable abbrev auq:a_:=[(199,Ls),(233,Z4)]
theorem avG:aR O (aX ad auq):=aV ⟨W8,z233,⟨⟩⟩
abbrev i200:Shape:=⟨[ak 0],[],11⟩
abbrev X4:Shape:=⟨[ak 2],[],11⟩
noncomputable def f200(a:i200.J):Option X4.J:=
(f199 ((a.1.1,()),())).bind fun b=>
 bif(!b.2.1.1) then
 some ((([]:B),()),())
else
(f233 ((a.1.1,(47:Int),()),())).bind fun c=>
(bm a.1.1 (0:Int) (ga c.1.1 (0:Int))).bind fun d=>
 some ((d,()),())
noncomputable def _h:aD:=aH ad Tryz.f200 i200 X4 [] f200
theorem arY:aB O 200 _h:=aK avG Tryz.func200 (by kernel_rfl) ae (fun y=>by kernel_rfl) fun a=>by kernel_rfl
abbrev i283:Shape:=⟨[ak 0],[],6⟩
abbrev Xt:Shape:=⟨[ap 2],[],6⟩
noncomputable def f283(a:i283.J):Option Xt.J:=
 some (((!(a.1.1==a.1.1)),()),())
noncomputable def ZN:aD:=aH ad Tryz.f283 i283 Xt [] f283
theorem ary:aB O 283 ZN:=aK g0 Tryz.func283 (by kernel_rfl) ae (fun y=>by kernel_rfl) fun a=>by kernel_rfl
noncomputable abbrev at1:a_:=[(283,ZN)]
theorem avs:aR O (aX ad at1):=aV ⟨ary,⟨⟩⟩
abbrev i268:Shape:=⟨[ak 0,ak 1],[],20⟩
abbrev Xy:Shape:=⟨[ag 4],[],20⟩
noncomputable def f268(a:i268.J):Option Xy.J:=
(f283 ((a.1.1,()),())).bind fun b=>
(f283 ((a.1.2.1,()),())).bind fun c=>
 bif b.1.1 then
 bif c.1.1 then
 some (((0:Int),()),())
else
 some ((((-1):Int),()),())
else
 bif c.1.1 then
 some (((1:Int),()),())
else
 bif(Op.bytesLess a.1.1 a.1.2.1) then
 some ((((-1):Int),()),())
else
 bif(!(Op.bytesLess a.1.1 a.1.2.1||a.1.1==a.1.2.1)) then
 some (((1:Int),()),())
else
 some (((0:Int),()),())
noncomputable def ZT:aD:=aH ad Tryz.f268 i268 Xy [] f268
theorem arE:aB O 268 ZT:=aK avs Tryz.func268 (by kernel_rfl) ae (fun y=>by kernel_rfl) fun a=>by kernel_rfl
noncomputable abbrev at7:a_:=[(268,ZT)]
theorem avw:aR O (aX ad at7):=aV ⟨arE,⟨⟩⟩
abbrev i235:Shape:=⟨[b_ 0 [ah,a6,a6,ah],b_ 1 [ah,a6,a6,ah]],[],10⟩
abbrev XI:Shape:=⟨[ag 4],[],10⟩
noncomputable def f235(a:i235.J):Option XI.J:=
(f268 ((a.1.1.1,a.1.2.1.1,()),())).bind fun b=>
 some ((b.1.1,()),())
noncomputable def Z3:aD:=aH ad Tryz.f235 i235 XI [] f235
theorem arO:aB O 235 Z3:=aK avw Tryz.func235 (by kernel_rfl) ae (fun y=>by kernel_rfl) fun a=>by kernel_rfl
noncomputable abbrev apC:a_:=[(235,Z3)]
theorem V6:aR O (aX ad apC):=aV ⟨arO,⟨⟩⟩
abbrev yZ:Shape:=⟨[aL 0 .entry,(2,.am (.fn 235 [])),ay 4 4 0,ag 6,ap 7,ag 8,ag 9,ag 10],[ax 4 [ah,a6,a6,ah]],49⟩
abbrev Fz:List aP:=[(.exit 0,⟨[aL 0 .entry,(2,.am (.fn 235 [])),ay 4 4 0,ag 6,ap 7,ag 8,ag 9],[ax 4 [ah,a6,a6,ah]],49⟩)]
noncomputable def zb(y:yZ.J):bG yZ Fz:=
 bif(decide (y.1.2.2.2.2.2.2.1<y.1.2.2.2.2.2.2.2.1)) then
(fk .u64 (IntKind.u64.wrap (IntKind.i64.wrap (y.1.2.2.2.2.2.2.1+y.1.2.2.2.2.2.2.2.1))) (1:Int)).bind fun a=>
(aO y.1.1 (IntKind.i64.wrap a)).bind fun b=>
(f235 (((b.path,b.kind,b.mode,b.text,()),(y.2.1.1,y.2.1.2.1,y.2.1.2.2.1,y.2.1.2.2.2.1,()),()),())).bind fun c=>
 bif(decide (c.1.1<(0:Int))) then
 some (.inl ((y.1.1,(),(),y.1.2.2.2.1,y.1.2.2.2.2.1,y.1.2.2.2.2.2.1,(IntKind.i64.wrap ((IntKind.i64.wrap a)+(1:Int))),y.1.2.2.2.2.2.2.2.1,()),(y.2.1.1,y.2.1.2.1,y.2.1.2.2.1,y.2.1.2.2.2.1,()),()))
else
 some (.inl ((y.1.1,(),(),y.1.2.2.2.1,y.1.2.2.2.2.1,y.1.2.2.2.2.2.1,y.1.2.2.2.2.2.2.1,(IntKind.i64.wrap a),()),(y.2.1.1,y.2.1.2.1,y.2.1.2.2.1,y.2.1.2.2.2.1,()),()))
else
 some (.inr ((y.1.1,(),(),y.1.2.2.2.1,y.1.2.2.2.2.1,y.1.2.2.2.2.2.1,y.1.2.2.2.2.2.2.1,()),(y.2.1.1,y.2.1.2.1,y.2.1.2.2.1,y.2.1.2.2.2.1,()),()))
noncomputable def y_:yZ.J->Option (aC Fz):=bu zb
theorem aip:aT O (an (codeOf Tryz.f234) 1 60) (aU yZ Fz y_):=bI V6 (by kernel_rfl) ae fun y=>by kernel_rfl
abbrev Vj:Shape:=⟨[aL 0 .entry,b_ 1 [ah,a6,a6,ah],(2,.am (.fn 235 []))],[],49⟩
abbrev UR:Shape:=⟨[ag 6,ap 7],[],49⟩
noncomputable def Co(a:Vj.J):Option UR.J:=
(y_ ((a.1.1,(),(),(0:Int),false,(a.1.1.length:Int),(0:Int),(a.1.1.length:Int),()),(a.1.2.1.1,a.1.2.1.2.1,a.1.2.1.2.2.1,a.1.2.1.2.2.2.1,()),())).bind fun b=>
 bif(decide (b.1.2.2.2.2.2.2.1<b.1.2.2.2.2.2.1)) then
(aO b.1.1 b.1.2.2.2.2.2.2.1).bind fun c=>
(f235 (((c.path,c.kind,c.mode,c.text,()),(b.2.1.1,b.2.1.2.1,b.2.1.2.2.1,b.2.1.2.2.2.1,()),()),())).bind fun d=>
 some ((b.1.2.2.2.2.2.2.1,(d.1.1==(0:Int)),()),())
else
 some ((b.1.2.2.2.2.2.2.1,false,()),())
noncomputable def VR:aD:=aH ad Tryz.f234 Vj UR [] Co
theorem anV:aB O 234 VR:=aK V6 Tryz.func234 (by kernel_rfl) (a8 aip ae) (fun y=>by kernel_rfl) fun a=>by kernel_rfl
noncomputable abbrev aup:a_:=[(234,VR)]
theorem avF:aR O (aX ad aup):=aV ⟨anV,⟨⟩⟩
abbrev i201:Shape:=⟨[aL 0 .entry,ak 1],[],12⟩
abbrev X3:Shape:=⟨[ag 4,ap 5],[],12⟩
noncomputable def f201(a:i201.J):Option X3.J:=
(Co ((a.1.1,(a.1.2.1,(0:Int),(0:Int),([]:B),()),(),()),())).bind fun b=>
 some ((b.1.1,b.1.2.1,()),())
noncomputable def Lr:aD:=aH ad Tryz.f201 i201 X3 [] f201
theorem z201:aB O 201 Lr:=aK avF Tryz.func201 (by kernel_rfl) ae (fun y=>by kernel_rfl) fun a=>by kernel_rfl
theorem wm:∀a:B,Op.bytesLess a a=false:=by
 intro a;induction a with
 |nil=>rfl
 |cons b r ih=>simp[Op.bytesLess,ih]
theorem vy:∀a b c:B,Op.bytesLess a b=true->Op.bytesLess b c=true->Op.bytesLess a c=true:=by
 intro a;induction a with
 |nil=>intro b c h1 h2;cases c with
  |nil=>cases b<;>simp[Op.bytesLess] at h2
  |cons z c=>rfl
 |cons x a ih=>
  intro b c h1 h2;cases b with
  |nil=>simp[Op.bytesLess] at h1
  |cons y b=>
   cases c with
   |nil=>simp[Op.bytesLess] at h2
   |cons z c=>
    simp only[Op.bytesLess,Bool.or_eq_true,decide_eq_true_eq,Bool.and_eq_true,beq_iff_eq] at h1 h2 ⊢;rcases h1 with h1|⟨rfl,h1⟩
    ·rcases h2 with h2|⟨rfl,h2⟩
     ·exact .inl (UInt8.lt_trans h1 h2)
     ·exact .inl h1
    ·rcases h2 with h2|⟨rfl,h2⟩
     ·exact .inl h2
     ·exact .inr ⟨rfl,ih b c h1 h2⟩
theorem aps:∀a b:B,Op.bytesLess a b=false->(a==b)=false->Op.bytesLess b a=true:=by
 intro a;induction a with
 |nil=>intro b h1 h2;cases b with
  |nil=>simp at h2
  |cons y b=>simp[Op.bytesLess] at h1
 |cons x a ih=>
  intro b h1 h2;cases b with
  |nil=>rfl
  |cons y b=>
   simp only[Op.bytesLess,Bool.or_eq_false_iff,decide_eq_false_iff_not,Bool.and_eq_false_iff,beq_eq_false_iff_ne,ne_eq] at h1;simp only[Op.bytesLess,Bool.or_eq_true,decide_eq_true_eq,Bool.and_eq_true,beq_iff_eq];by_cases hxy:x=y
   ·subst hxy;refine .inr ⟨rfl,ih b ?_ ?_⟩
    ·rcases h1.2 with h|h
     ·exact absurd rfl h
     ·exact h
    ·cases h:(a==b) with
     |false=>rfl
     |true=>rw[eq_of_beq h] at h2;simp at h2
   ·exact .inl (by
     have:=h1.1;rcases UInt8.lt_or_lt_of_ne (fun h=>hxy h) with h|h
     ·exact absurd h this
     ·exact h)
theorem anI{a b:B}(h:Op.bytesLess a b=true):Op.bytesLess b a=false:=by
 cases h2:Op.bytesLess b a with
 |false=>rfl
 |true=>have:=vy a b a h h2;rw[wm] at this;cases this
theorem are{a b:B}(h:Op.bytesLess a b=true):(a==b)=false:=by
 cases h2:(a==b) with
 |false=>rfl
 |true=>rw[eq_of_beq h2,wm] at h;cases h
theorem anH:∀(s:B) (i:Nat),i<s.length->Op.bytesLess (s.take i) s=true:=by
 intro s;induction s with
 |nil=>intro i h;simp at h
 |cons b r ih=>
  intro i h;cases i with
  |zero=>rfl
  |succ i=>simp only[List.take_succ_cons,Op.bytesLess];simp[ih i (by simpa using h)]
def lr(c:UInt8)(s:B):Nat->Option Nat
 |0=>none
 |n+1=>match s[n]? with
  |some b=>bif(b.toNat:Int)==(c.toNat:Int) then some n else lr c s n
  |none=>none
theorem OJ{c:UInt8}{s:B}:∀{n i:Nat},lr c s n=some i->i<n/\i<s.length:=by
 intro n;induction n with
 |zero=>intro i h;cases h
 |succ n ih=>
  intro i h;simp only[lr] at h;split at h
  ·rename_i b hb;cases hc:((b.toNat:Int)==(c.toNat:Int)) with
   |true=>rw[hc] at h;cases h;exact⟨Nat.lt_succ_self _,cU hb⟩
   |false=>rw[hc] at h;have:=ih h;omega
  ·cases h
def i_(s:B):B:=match lr 47 s s.length with
 |some i=>s.take i
 |none=>[]
theorem ajN{s:B}(h:(i_ s==[])=false):Op.bytesLess (i_ s) s=true:=by
 unfold i_ at h ⊢;split
 ·rename_i i hi;exact anH s i (OJ hi).2
 ·rename_i hi;rw[hi] at h;cases h
theorem Uh(a)(hs:ci a.1.1.length):f145 a=some ((i_ a.1.1,()),()):=by
 obtain⟨⟨s,u⟩,bV⟩:=a;have hs:s.length<=2097152:=hs;have key:∀n,n<=s.length->IB ((s,((n:Int)-1,())),())=some (match lr 47 s n with|some i=>.inl ((s.take i,()),())|none=>.inr ((),())):=by
  intro n;induction n with
  |zero=>intro _;exact cp (by rfl)
  |succ n ih=>
   intro hn;have e:((n+1:Nat):Int)-1=(n:Int):=by omega
   obtain⟨b,hb⟩:∃b,s[n]? =some b:=⟨s[n],List.getElem?_eq_getElem hn⟩;have h0:decide ((n:Int)>=0)=true:=by simp
   rw[e];simp only[lr,hb];cases hc:((b.toNat:Int)==((47:UInt8).toNat:Int)) with
   |true=>
    refine cp ?_
    simp only[I0,h0,cond_true,b5,hb,Option.bind_some];rw[show((b.toNat:Int)==47)=true from hc,fY (by omega)]
    rfl
   |false=>
    refine(dM ?_).trans (ih (by omega))
    simp only[I0,h0,cond_true,b5,hb,Option.bind_some];rw[show((b.toNat:Int)==47)=false from hc,cT (by omega) (by omega)]
    rfl
 have hw:IntKind.i64.wrap ((s.length:Int)-1)=(s.length:Int)-1:=cT (by omega) (by omega)
 simp only[f145,hw,key s.length (Nat.le_refl _),Option.bind_some,i_];cases lr 47 s s.length<;>rfl
theorem afC(a)(hs:ci a.1.1.length)(ays:a.1.2.1=47):f267 a=some (((match lr 47 a.1.1 a.1.1.length with|some i=>(i:Int)|none=>-1),()),()):=by
 obtain⟨⟨s,c,u⟩,bV⟩:=a;obtain rfl:c=47:=ays;have hs:s.length<=2097152:=hs;have key:∀n,n<=s.length->Io ((s,((47:Int),((n:Int)-1,()))),())=some (match lr 47 s n with|some i=>.inl (((i:Int),()),())|none=>.inr ((),())):=by
  intro n;induction n with
  |zero=>intro _;exact cp (by rfl)
  |succ n ih=>
   intro hn;have e:((n+1:Nat):Int)-1=(n:Int):=by omega
   obtain⟨b,hb⟩:∃b,s[n]? =some b:=⟨s[n],List.getElem?_eq_getElem hn⟩;have h0:decide ((n:Int)>=0)=true:=by simp
   rw[e];simp only[lr,hb];cases hc:((b.toNat:Int)==((47:UInt8).toNat:Int)) with
   |true=>
    refine cp ?_
    simp only[IU,h0,cond_true,b5,hb,Option.bind_some];rw[show((b.toNat:Int)==47)=true from hc]
    rfl
   |false=>
    refine(dM ?_).trans (ih (by omega))
    simp only[IU,h0,cond_true,b5,hb,Option.bind_some];rw[show((b.toNat:Int)==47)=false from hc,cT (by omega) (by omega)]
    rfl
 have hw:IntKind.i64.wrap ((s.length:Int)-1)=(s.length:Int)-1:=cT (by omega) (by omega)
 simp only[f267,hw,key s.length (Nat.le_refl _),Option.bind_some];cases lr 47 s s.length<;>rfl
theorem ajI(a)(hs:ci a.1.1.length):f200 a=some (((bif gn a.1.1 then i_ a.1.1 else []),()),()):=by
 obtain⟨⟨s,u⟩,bV⟩:=a;have hs:s.length<=2097152:=hs;have e1:=Gk ((s,()),()) hs;have e2:=afC ((s,((47:Int),())),()) hs rfl;simp only[f200,e1,Option.bind_some,f233,e2];cases gn s with
 |false=>rfl
 |true=>
  simp only[Bool.not_true,cond_false,cond_true];unfold i_;cases hl:lr 47 s s.length with
  |none=>
   have:ga (-1) 0=0:=by decide
   simp only[this];have:=fY (xs:=s) (b:=0) (Nat.zero_le _);have this:bm s 0 0=some (s.take 0):=this;rw[this];rfl
  |some i=>
   have hi:=(OJ hl).2;have:ga (i:Int) 0=(i:Int):=by unfold ga;rw[if_neg (by omega)]
   simp only[this];rw[fY (by omega)];rfl
def bM(t:List aw)(p:B):Nat:=(t.takeWhile fun e=>Op.bytesLess e.path p).length
def gK(t:List aw)(p:B):Bool:=match t[bM t p]? with
 |some e=>e.path==p
 |none=>false
def kN(t:List aw)(p:B):Bool:=p==[]||match t[bM t p]? with
 |some e=>e.path==p&&e.kind==1
 |none=>false
theorem qN(t:List aw)(p:B):bM t p<=t.length:=(List.takeWhile_prefix _).length_le
theorem Ja(a)(hs:ci a.1.1.length):f194 a=some (((bM a.1.1 a.1.2.1:Int),(gK a.1.1 a.1.2.1,())),()):=by
 obtain⟨⟨t,p,u⟩,bV⟩:=a;have hs:t.length<=2097152:=hs;have key:It ((t,(p,((0:Int),(false,((0:Int),()))))),())=_:=FS A' t (fun i (_:Unit)=>((t,(p,((0:Int),(false,((i:Int),()))))),()))
  (fun i e _=>some (bif Op.bytesLess e.path p then .inl () else .inr ((((t,(p,((0:Int),(false,((i:Int),()))))),())):aC sP))) (fun _=>((t,(p,((0:Int),(false,((t.length:Int),()))))),())) (fun i e s he=>?_) (fun s=>?_) ()
 ·have fold:∀(r:List aw) (k:Nat),k+r.length=t.length->eV (fun i (e:aw) (_:Unit)=>some (bif Op.bytesLess e.path p then .inl () else .inr ((((t,(p,((0:Int),(false,((i:Int),()))))),())):aC sP))) (fun _=>(((t,(p,((0:Int),(false,((t.length:Int),()))))),()):aC sP)) k r ()=
    some ((t,(p,((0:Int),(false,(((k+(r.takeWhile fun e=>Op.bytesLess e.path p).length:Nat):Int),()))))),()):=by
   intro r;induction r with
   |nil=>intro k hk;simp only[eV,List.takeWhile_nil,List.length_nil,Nat.add_zero] at hk ⊢;rw[hk]
   |cons e r ih=>
    intro k hk;simp only[eV,List.takeWhile_cons];cases hl:Op.bytesLess e.path p with
    |false=>rfl
    |true=>
     simp only[cond_true,if_true,List.length_cons];rw[ih (k+1) (by simp only[List.length_cons] at hk;omega)]
     have:k+1+(r.takeWhile fun e=>Op.bytesLess e.path p).length=k+((r.takeWhile fun e=>Op.bytesLess e.path p).length+1):=by omega
     rw[this]
  rw[fold t 0 (Nat.zero_add _),Nat.zero_add] at key;have hk:(t.takeWhile fun e=>Op.bytesLess e.path p).length=bM t p:=rfl
  rw[hk] at key;simp only[f194,key,Option.bind_some,gK,b5];cases aq:t[bM t p]? with
  |none=>
   have:=List.getElem?_eq_none_iff.1 aq;have:decide ((bM t p:Int)<(t.length:Int))=false:=by simp only[decide_eq_false_iff_not];omega
   rw[this];rfl
  |some e=>rw[cf (cU aq)];rfl
 ·have hi:=cU he;have hw:au i:=by unfold au;omega
  simp only[A',cf hi,cond_true,b5,he,Option.bind_some,bX hw];cases Op.bytesLess e.path p<;>rfl
 ·simp only[A',dx,cond_false]
theorem SB(a)(hs:ci a.1.1.length):f144 a=some ((kN a.1.1 a.1.2.1,()),()):=by
 obtain⟨⟨t,p,u⟩,bV⟩:=a;have e1:=Ja ((t,(p,())),()) hs;simp only[f144,e1,Option.bind_some,kN,gK,b5];cases (p==[]) with
 |true=>rfl
 |false=>
  cases aq:t[bM t p]? with
  |none=>rfl
  |some e=>simp only[Bool.not_false,cond_true,Option.bind_some,Bool.false_or];cases (e.path==p)<;>rfl
def fJ(t:List aw):Prop:=t.Pairwise fun a b=>Op.bytesLess a.path b.path=true
theorem fJ.take{t:List aw}(h:fJ t)(i:Nat):fJ (t.take i):=List.Pairwise.sublist (List.take_sublist i t) h
theorem kF:∀{t:List aw} {p:B},fJ t->∀(h:Nat) (e:aw),t[h]? =some e->Op.bytesLess e.path p=decide (h<bM t p):=by
 intro t p;induction t with
 |nil=>intro _ h e he;simp at he
 |cons x t ih=>
  intro ha h e he;have fr:=List.pairwise_cons.1 ha;unfold bM;rw[List.takeWhile_cons];cases hx:Op.bytesLess x.path p with
  |true=>
   simp only[if_true,List.length_cons];cases h with
   |zero=>simp only[List.getElem?_cons_zero,Option.some.injEq] at he;subst he;rw[hx];simp
   |succ h=>
    simp only[List.getElem?_cons_succ] at he;rw[ih fr.2 h e he];unfold bM;congr 1;apply propext;omega
  |false=>
   have:(decide (h<(if false=true then x::t.takeWhile (fun e=>Op.bytesLess e.path p) else []).length))=false:=by simp
   rw[this];cases h with
   |zero=>simp only[List.getElem?_cons_zero,Option.some.injEq] at he;subst he;exact hx
   |succ h=>
    simp only[List.getElem?_cons_succ] at he;have h2:=fr.1 e (List.mem_of_getElem? he);cases h3:Op.bytesLess e.path p with
    |false=>rfl
    |true=>have:=vy _ _ _ h2 h3;rw[hx] at this;cases this
def tZ(a b:B):Int:=bif Op.bytesLess a b then-1 else bif a==b then 0 else 1
theorem Gj(a):f235 a=some ((tZ a.1.1.1 a.1.2.1.1,()),()):=by
 obtain⟨⟨⟨p,eh⟩,⟨⟨q,fT⟩,jE⟩⟩,adt⟩:=a;have h1:(p==p)=true:=by simp
 have h2:(q==q)=true:=by simp
 simp only[f235,f268,f283,Option.bind_some,h1,h2,Bool.not_true,cond_false,tZ];cases Op.bytesLess p q<;>cases (p==q)<;>rfl
theorem St(a b:B):decide (tZ a b<0)=Op.bytesLess a b:=by
 unfold tZ;cases Op.bytesLess a b<;>cases (a==b)<;>rfl
theorem ajj(a b:B):(tZ a b==0)=(a==b):=by
 unfold tZ;cases h:Op.bytesLess a b with
 |true=>rw[are h];rfl
 |false=>cases (a==b)<;>rfl
theorem asQ{n:Nat}(h:n<=1099511627776):fk .u64 (IntKind.u64.wrap (IntKind.i64.wrap (n:Int))) 1=some (((n/2:Nat)):Int):=by
 rw[cT (by omega) (by omega)]
 have:IntKind.u64.wrap (n:Int)=(n:Int):=by
  simp[IntKind.wrap,IntKind.bits,IntKind.signed];omega
 rw[this];unfold fk;rw[if_neg (by decide)]
 congr 1
 show Int.fdiv (n:Int) 2=_;rw[Int.fdiv_eq_ediv_of_nonneg _ (by decide)]
 omega
theorem OR(a)(hs:ci a.1.1.length)(ha:fJ a.1.1):f201 a=some (((bM a.1.1 a.1.2.1:Int),(gK a.1.1 a.1.2.1,())),()):=by
 obtain⟨⟨t,p,u⟩,bV⟩:=a;have hs:t.length<=2097152:=hs;have uQ:=qN t p;have key:∀d i j:Nat,j-i=d->i<=bM t p->bM t p<=j->j<=t.length->
   y_ ((t,((),((),((0:Int),(false,((t.length:Int),((i:Int),((j:Int),())))))))),((p,((0:Int),((0:Int),(([]:B),())))),()))=
    some (((t,((),((),((0:Int),(false,((t.length:Int),((bM t p:Int),()))))))),((p,((0:Int),((0:Int),(([]:B),())))),()))):=by
  intro d;induction d using Nat.strongRecOn with
  |_ d ih=>
   intro i j Z hi hj hl;by_cases p1:i<j
   ·have bL:(i+j)/2<t.length:=by omega
    obtain⟨e,he⟩:∃e,t[(i+j)/2]? =some e:=⟨t[(i+j)/2],List.getElem?_eq_getElem bL⟩;have hsh:fk .u64 (IntKind.u64.wrap (IntKind.i64.wrap ((i:Int)+(j:Int)))) 1=some ((((i+j)/2:Nat)):Int):=by
     rw[<-asQ (n:=i+j) (by omega)];rw[Int.natCast_add]
    have ab0:IntKind.i64.wrap (((i+j)/2:Nat):Int)=(((i+j)/2:Nat):Int):=cT (by omega) (by omega)
    have oI:=kF (t:=t) (p:=p) ha ((i+j)/2) e he;cases hb:Op.bytesLess e.path p with
    |true=>
     rw[hb] at oI;have hlt:(i+j)/2<bM t p:=by simpa using oI.symm
     refine(dM ?_).trans (ih (j-((i+j)/2+1)) (by omega) ((i+j)/2+1) j rfl (by omega) hj hl)
     simp only[zb,cf p1,cond_true,hsh,ab0,b5,he,Option.bind_some,Gj,St,hb,bX (i:=(i+j)/2) (by unfold au;omega)]
    |false=>
     rw[hb] at oI;have hge:¬(i+j)/2<bM t p:=by simpa using oI.symm
     refine(dM ?_).trans (ih ((i+j)/2-i) (by omega) i ((i+j)/2) rfl hi (by omega) (by omega))
     simp only[zb,cf p1,cond_true,hsh,ab0,b5,he,Option.bind_some,Gj,St,hb,cond_false]
   ·have jB:i=bM t p:=by omega
    have hlt:decide ((i:Int)<(j:Int))=false:=by simp only[decide_eq_false_iff_not];omega
    refine cp ?_
    simp only[zb,hlt,cond_false];rw[jB]
 have l1:y_ ((t,((),((),((0:Int),(false,((t.length:Int),((0:Int),((t.length:Int),())))))))),((p,((0:Int),((0:Int),(([]:B),())))),()))=_:=key t.length 0 t.length (Nat.sub_zero _) (Nat.zero_le _) uQ (Nat.le_refl _);have Y:Co ((t,((p,((0:Int),((0:Int),(([]:B),())))),((),()))),())=some (((bM t p:Int),(gK t p,())),()):=by
  simp only[Co,l1,Option.bind_some,gK,b5,Gj,ajj];cases aq:t[bM t p]? with
  |none=>
   have:=List.getElem?_eq_none_iff.1 aq;have:decide ((bM t p:Int)<(t.length:Int))=false:=by simp only[decide_eq_false_iff_not];omega
   rw[this];rfl
  |some e=>rw[cf (cU aq)];rfl
 simp only[f201,Y,Option.bind_some]
noncomputable abbrev auP:a_:=[(200,_h),(201,Lr)]
theorem avP:aR O (aX ad auP):=aV ⟨arY,z201,⟨⟩⟩
abbrev i153:Shape:=⟨[aL 0 .entry,ak 1],[],27⟩
abbrev YA:Shape:=⟨[ap 4],[],27⟩
noncomputable def f153(a:i153.J):Option YA.J:=
(f200 ((a.1.2.1,()),())).bind fun b=>
 bif(b.1.1==([]:B)) then
 some ((true,()),())
else
(f201 ((a.1.1,b.1.1,()),())).bind fun c=>
 bif c.1.2.1 then
(aO a.1.1 c.1.1).bind fun d=>
 some (((d.kind==(1:Int)),()),())
else
 some ((false,()),())
noncomputable def _J:aD:=aH ad Tryz.f153 i153 YA [] f153
theorem asi:aB O 153 _J:=aK avP Tryz.func153 (by kernel_rfl) ae (fun y=>by kernel_rfl) fun a=>by kernel_rfl
noncomputable abbrev avm:a_:=[(152,_K),(153,_J)]
theorem LV:aR O (aX ad avm):=aV ⟨z152,asi,⟨⟩⟩
abbrev QG:Shape:=⟨[aL 0 .entry,ag 3,ay 4 4 0,aL 8 .entry,ag 9,ag 10],[ax 4 [ah,a6,a6,ah]],43⟩
abbrev Qn:List aP:=[(.norm,⟨[aL 0 .entry,aL 8 .entry,ag 9,ag 10,b_ 15 [ah,a6,a6,ah],ap 16,ap 17,ap 18,ap 32,ap 33,ap 41],[],43⟩)]
noncomputable def Ga(y:QG.J):Option (aC Qn):=
(f152 (((y.2.1.1,y.2.1.2.1,y.2.1.2.2.1,y.2.1.2.2.2.1,()),()),())).bind fun a=>
 bif(!a.1.1) then
 some ((y.1.1,y.1.2.2.2.1,y.1.2.2.2.2.1,y.1.2.2.2.2.2.1,(y.2.1.1,y.2.1.2.1,y.2.1.2.2.1,y.2.1.2.2.2.1,()),a.1.1,(!a.1.1),true,true,true,true,()),())
else
 bif(decide (y.1.2.1>(0:Int))) then
(aO y.1.1 (IntKind.i64.wrap (y.1.2.1-(1:Int)))).bind fun b=>
 bif(!(Op.bytesLess b.path y.2.1.1)) then
 some ((y.1.1,y.1.2.2.2.1,y.1.2.2.2.2.1,y.1.2.2.2.2.2.1,(y.2.1.1,y.2.1.2.1,y.2.1.2.2.1,y.2.1.2.2.2.1,()),a.1.1,(!a.1.1),false,(!(Op.bytesLess b.path y.2.1.1)),true,true,()),())
else
(bm y.1.1 (0:Int) y.1.2.1).bind fun c=>
(f153 ((c,y.2.1.1,()),())).bind fun d=>
 some ((y.1.1,y.1.2.2.2.1,y.1.2.2.2.2.1,y.1.2.2.2.2.2.1,(y.2.1.1,y.2.1.2.1,y.2.1.2.2.1,y.2.1.2.2.2.1,()),a.1.1,(!a.1.1),false,(!(Op.bytesLess b.path y.2.1.1)),false,(!d.1.1),()),())
else
(bm y.1.1 (0:Int) y.1.2.1).bind fun e=>
(f153 ((e,y.2.1.1,()),())).bind fun f=>
 some ((y.1.1,y.1.2.2.2.1,y.1.2.2.2.2.1,y.1.2.2.2.2.2.1,(y.2.1.1,y.2.1.2.1,y.2.1.2.2.1,y.2.1.2.2.2.1,()),a.1.1,(!a.1.1),false,false,false,(!f.1.1),()),())
theorem aiH:aT O (an (c4 (an (codeOf Tryz.f105) 1 58)) 116 7474) (aU QG Qn Ga):=ce LV (by kernel_rfl) ae fun y=>by kernel_rfl
abbrev AV:Shape:=⟨[aL 0 .entry,aL 8 .entry,ag 9,ag 10],[],43⟩
abbrev vC:List aP:=[(.ret,⟨[ap 2],[],43⟩),(.exit 0,⟨[],[],43⟩)]
noncomputable def Br(y:AV.J):bG AV vC:=
 bif(decide (y.1.2.2.2.1<y.1.2.2.1)) then
(aO y.1.2.1 y.1.2.2.2.1).bind fun a=>
(Ga ((y.1.1,y.1.2.2.2.1,(),y.1.2.1,y.1.2.2.1,y.1.2.2.2.1,()),(a.path,a.kind,a.mode,a.text,()),())).bind fun b=>
 bif b.1.2.2.2.2.2.2.2.2.2.2.1 then
 some (.inr (.inl ((false,()),())))
else
 some (.inl ((b.1.1,b.1.2.1,b.1.2.2.1,(IntKind.i64.wrap (b.1.2.2.2.1+(1:Int))),()),()))
else
 some (.inr (.inr ((),())))
noncomputable def IK:AV.J->Option (aC vC):=bu Br
theorem am0:aT O (an (codeOf Tryz.f105) 1 58) (aU AV vC IK):=bI LV (by kernel_rfl) (a8 aiH ae) fun y=>by kernel_rfl
abbrev i105:Shape:=⟨[aL 0 .entry],[],43⟩
abbrev Y_:Shape:=⟨[ap 2],[],43⟩
noncomputable def f105(a:i105.J):Option Y_.J:=
 bif(decide ((a.1.1.length:Int)>(16:Int))) then
 some ((false,()),())
else
(IK ((a.1.1,a.1.1,(a.1.1.length:Int),(0:Int),()),())).bind fun b=>
(match b with
|.inl c=>
 some ((c.1.1,()),())
|.inr d=>
 some ((true,()),()))
noncomputable def xd:aD:=aH ad Tryz.f105 i105 Y_ [] f105
theorem z105:aB O 105 xd:=aK LV Tryz.func105 (by kernel_rfl) (a8 am0 ae) (fun y=>by kernel_rfl) fun a=>by kernel_rfl
noncomputable abbrev azf:a_:=[(143,LC),(144,LB),(145,LA)]
theorem Eo:aR O (aX ad azf):=aV ⟨z143,Xa,z145,⟨⟩⟩
abbrev S2:Shape:=⟨[aL 0 .entry,ag 3],[],53⟩
abbrev SG:List aP:=[(.norm,⟨[aL 0 .entry,ag 3,aL 11 .entry,ag 12,(13,.am (.eE [.str,.int .i64,.int .i64,.str] 0)),b_ 14 [ah,a6,a6,ah],ap 15,ap 16,ap 17,ap 34],[],53⟩)]
noncomputable def IQ(y:S2.J):Option (aC SG):=
(aO y.1.1 y.1.2.1).bind fun a=>
(f143 (((a.path,a.kind,a.mode,a.text,()),()),())).bind fun b=>
 bif(!b.1.1) then
 some ((y.1.1,y.1.2.1,y.1.1,y.1.2.1,(a.path,a.kind,a.mode,a.text,()),(a.path,a.kind,a.mode,a.text,()),b.1.1,(!b.1.1),true,true,()),())
else
 bif(decide (y.1.2.1>(0:Int))) then
(aO y.1.1 (IntKind.i64.wrap (y.1.2.1-(1:Int)))).bind fun c=>
(aO y.1.1 y.1.2.1).bind fun d=>
 some ((y.1.1,y.1.2.1,y.1.1,y.1.2.1,(a.path,a.kind,a.mode,a.text,()),(a.path,a.kind,a.mode,a.text,()),b.1.1,(!b.1.1),false,(!(Op.bytesLess c.path d.path)),()),())
else
 some ((y.1.1,y.1.2.1,y.1.1,y.1.2.1,(a.path,a.kind,a.mode,a.text,()),(a.path,a.kind,a.mode,a.text,()),b.1.1,(!b.1.1),false,false,()),())
theorem alX:aT O (an (c4 (an (codeOf Tryz.f90) 1 26)) 52 840) (aU S2 SG IQ):=ce Eo (by kernel_rfl) ae fun y=>by kernel_rfl
abbrev BN:Shape:=⟨[aL 0 .entry,ag 3],[],53⟩
abbrev Jf:List aP:=[(.ret,⟨[ap 2],[],53⟩),(.exit 0,⟨[aL 0 .entry],[],53⟩)]
noncomputable def Cc(y:BN.J):bG BN Jf:=
 bif(decide (y.1.2.1<(y.1.1.length:Int))) then
(IQ ((y.1.1,y.1.2.1,()),())).bind fun a=>
 bif a.1.2.2.2.2.2.2.2.2.2.1 then
 some (.inr (.inl ((false,()),())))
else
 some (.inl ((a.1.1,(IntKind.i64.wrap (a.1.2.1+(1:Int))),()),()))
else
 some (.inr (.inr ((y.1.1,()),())))
noncomputable def JD:BN.J->Option (aC Jf):=bu Cc
theorem aox:aT O (an (codeOf Tryz.f90) 1 26) (aU BN Jf JD):=bI Eo (by kernel_rfl) (a8 alX ae) fun y=>by kernel_rfl
abbrev BM:Shape:=⟨[aL 0 .entry,ag 4],[],53⟩
abbrev Je:List aP:=[(.ret,⟨[ap 2],[],53⟩),(.exit 2,⟨[aL 0 .entry],[],53⟩)]
noncomputable def Cb(y:BM.J):bG BM Je:=
 bif(decide (y.1.2.1<(y.1.1.length:Int))) then
(aO y.1.1 y.1.2.1).bind fun a=>
(f145 ((a.path,()),())).bind fun b=>
(f144 ((y.1.1,b.1.1,()),())).bind fun c=>
 bif(!c.1.1) then
 some (.inr (.inl ((false,()),())))
else
 some (.inl ((y.1.1,(IntKind.i64.wrap (y.1.2.1+(1:Int))),()),()))
else
 some (.inr (.inr ((y.1.1,()),())))
noncomputable def JC:BM.J->Option (aC Je):=bu Cb
theorem aow:aT O (an (codeOf Tryz.f90) 1 58) (aU BM Je JC):=bI Eo (by kernel_rfl) ae fun y=>by kernel_rfl
abbrev i90:Shape:=⟨[aL 0 .entry],[],53⟩
abbrev aa4:Shape:=⟨[ap 2],[],53⟩
noncomputable def f90(a:i90.J):Option aa4.J:=
(JD ((a.1.1,(0:Int),()),())).bind fun b=>
(match b with
|.inl c=>
 some ((c.1.1,()),())
|.inr d=>
(JC ((d.1.1,(0:Int),()),())).bind fun e=>
(match e with
|.inl f=>
 some ((f.1.1,()),())
|.inr g=>
 some (((decide ((g.1.1.length:Int)<=(16:Int))),()),())))
noncomputable def xY:aD:=aH ad Tryz.f90 i90 aa4 [] f90
theorem DE:aB O 90 xY:=aK Eo Tryz.func90 (by kernel_rfl) (a8 aox (a8 aow ae)) (fun y=>by kernel_rfl) fun a=>by kernel_rfl
theorem agn{aJ:Type}{ok mB:Nat->aJ->Bool}:∀(xs:List aJ) (j:Nat),(∀i x,xs[i]? =some x->ok (j+i) x=mB (j+i) x)->allI ok j xs=allI mB j xs:=by
 intro xs;induction xs with
 |nil=>intro j _;rfl
 |cons x r ih=>
  intro j h;simp only[allI];rw[show ok j x=mB j x from h 0 x rfl,ih (j+1) (fun i y hy=>by have:=h (i+1) y (by simpa using hy);rw[show j+(i+1)=j+1+i by omega] at this;exact this)]
theorem z8{aJ:Type}{ok:Nat->aJ->Bool}:∀(xs:List aJ) (j:Nat),allI ok j xs=true->∀i x,xs[i]? =some x->ok (j+i) x=true:=by
 intro xs;induction xs with
 |nil=>intro j _ i x h;simp at h
 |cons y r ih=>
  intro j h i x hx;simp only[allI,Bool.and_eq_true] at h;cases i with
  |zero=>simp only[List.getElem?_cons_zero,Option.some.injEq] at hx;subst hx;exact h.1
  |succ i=>have:=ih (j+1) h.2 i x (by simpa using hx);rwa[show j+1+i=j+(i+1) by omega] at this
abbrev is(t:List aw):Prop:=ci t.length/\∀e,e∈t->lX e
def v8(t:List aw)(i:Nat)(e:aw):Bool:=i==0||match t[i-1]? with
 |some q=>Op.bytesLess q.path e.path
 |none=>false
def iV(t:List aw)(i:Nat)(e:aw):Bool:=eN e&&v8 t i e
def dC(t:List aw):Bool:=allI (iV t) 0 t&&t.all (fun e=>kN t (i_ e.path))&&decide (t.length<=16)
theorem Dl(i:Nat):decide ((i:Int)>0)=!(i==0):=by
 cases i with
 |zero=>rfl
 |succ i=>simp
theorem vo(a)(hs:is a.1.1):f90 a=some ((dC a.1.1,()),()):=by
 obtain⟨⟨t,u⟩,bV⟩:=a;obtain⟨hl,he⟩:=hs;have hl:t.length<=2097152:=hl;have key:JD ((t,((0:Int),())),())=some (bif allI (iV t) 0 t then .inr ((t,()),()) else .inl ((false,()),())):=by
  refine fX Cc t (fun i=>((t,((i:Int),())),())) _ _ _ (fun i x hx=>?_) ?_
  ·have hi:=cU hx;have hw:au i:=by unfold au;omega
   have hb:=he x (List.mem_of_getElem? hx);simp only[Cc,cf hi,cond_true,IQ,b5,hx,Option.bind_some];rw[P1 _ hb.1 hb.2];simp only[Option.bind_some,iV,Dl];cases eN x with
   |false=>rfl
   |true=>
    simp only[Bool.not_true,cond_false,Bool.true_and,v8];cases i with
    |zero=>simp only[beq_self_eq_true,Bool.not_true,cond_false,Option.bind_some,Bool.true_or,cond_true,bX hw]
    |succ i=>
     have h0:(i+1==0)=false:=rfl;have jB:i<t.length:=by omega
     obtain⟨q,az⟩:∃q,t[i]? =some q:=⟨t[i],List.getElem?_eq_getElem jB⟩;simp only[h0,Bool.not_false,cond_true,vd (i:=i) (by unfold au;omega),b5,az,hx,Option.bind_some,Bool.false_or,Nat.add_sub_cancel]
     cases Op.bytesLess q.path x.path with
     |false=>rfl
     |true=>simp only[Bool.not_true,cond_false,cond_true,bX hw]
  ·simp only[Cc,dx,cond_false]
 have Ze:JC ((t,((0:Int),())),())=some (bif allI (fun _ e=>kN t (i_ e.path)) 0 t then .inr ((t,()),()) else .inl ((false,()),())):=by
  refine fX Cb t (fun i=>((t,((i:Int),())),())) _ _ _ (fun i x hx=>?_) ?_
  ·have hi:=cU hx;have hw:au i:=by unfold au;omega
   have hb:=he x (List.mem_of_getElem? hx);simp only[Cb,cf hi,cond_true,b5,hx,Option.bind_some];rw[Uh _ hb.1];simp only[Option.bind_some];rw[SB _ hl];simp only[Option.bind_some,bX hw];cases kN t (i_ x.path)<;>rfl
  ·simp only[Cb,dx,cond_false]
 rw[gT] at Ze;simp only[f90,key,Option.bind_some,dC];cases allI (iV t) 0 t with
 |false=>rfl
 |true=>
  simp only[cond_true,Ze,Option.bind_some,Bool.true_and];cases List.all t (fun e=>kN t (i_ e.path)) with
  |false=>rfl
  |true=>have:=Dc t.length 16;simp only[cond_true,Bool.true_and];rw[<-this];rfl
theorem Sx{t:List aw}{i:Nat}{e:aw}(he:t[i]? =some e)(h:fJ (t.take i))(hl:v8 t i e=true):fJ (t.take (i+1)):=by
 rw[List.take_add_one,he];unfold fJ;refine List.pairwise_append.2 ⟨h,by simp,?_⟩
 intro a ha b hb;have hb:b=e:=by simpa using hb
 subst hb;obtain⟨k,hk⟩:=List.mem_iff_getElem?.1 ha;have D9:k<i:=by
  have:=cU hk;rw[List.length_take] at this;omega
 unfold v8 at hl;have h0:(i==0)=false:=by simp;omega
 rw[h0,Bool.false_or] at hl;split at hl
 ·rename_i q az;by_cases hkl:k=i-1
  ·have:t[k]? =some a:=by rw[List.getElem?_take,if_pos D9] at hk;exact hk
   rw[hkl,az] at this;cases this;exact hl
  ·have oH:(t.take i)[i-1]? =some q:=by rw[List.getElem?_take,if_pos (by omega)];exact az
   have:=List.pairwise_iff_getElem.1 h k (i-1) (cU hk) (cU oH) (by omega)
   rw[(List.getElem?_eq_some_iff.1 hk).2,(List.getElem?_eq_some_iff.1 oH).2] at this;exact vy _ _ _ this hl
 ·cases hl
theorem VO{t:List aw}(h:allI (iV t) 0 t=true):fJ t:=by
 have:∀i,i<=t.length->fJ (t.take i):=by
  intro i;induction i with
  |zero=>intro _;simp[fJ]
  |succ i ih=>
   intro hi;have he:t[i]? =some t[i]:=List.getElem?_eq_getElem hi;have:=z8 t 0 h i _ he;rw[Nat.zero_add] at this;simp only[iV,Bool.and_eq_true] at this;exact Sx he (ih (by omega)) this.2
 have:=this t.length (Nat.le_refl _);rwa[List.take_length] at this
theorem ahj{t:List aw}{i:Nat}{e:aw}{p:B}(ha:fJ t)(he:t[i]? =some e)(hp:Op.bytesLess p e.path=true):kN (t.take i) p=kN t p:=by
 have hi:=cU he;have h1:=kF (p:=p) ha i e he;rw[anI hp] at h1;have hle:bM t p<=i:=by
  have:¬i<bM t p:=by simpa using h1.symm
  omega
 have nw:bM (t.take i) p=bM t p:=by
  by_cases hlt:bM t p=i
  ·have hlen:(t.take i).length=i:=by rw[List.length_take];omega
   have h2:=qN (t.take i) p;rw[hlen] at h2;by_cases h3:bM (t.take i) p<i
   ·obtain⟨q,az⟩:∃q,(t.take i)[bM (t.take i) p]? =some q:=⟨_,List.getElem?_eq_getElem (by rw[hlen];exact h3)⟩
    have aA:=kF (p:=p) (ha.take i) _ q az;have oH:t[bM (t.take i) p]? =some q:=by rw[List.getElem?_take,if_pos h3] at az;exact az
    have bl:=kF (p:=p) ha _ q oH;rw[aA] at bl;have:decide (bM (t.take i) p<bM (t.take i) p)=false:=by simp
    rw[this] at bl;have:¬bM (t.take i) p<bM t p:=by simpa using bl.symm
    omega
   ·omega
  ·have hlt:bM t p<i:=by omega
   obtain⟨q,az⟩:∃q,t[bM t p]? =some q:=⟨_,List.getElem?_eq_getElem (by omega)⟩
   have oH:(t.take i)[bM t p]? =some q:=by rw[List.getElem?_take,if_pos hlt];exact az
   have aA:=kF (p:=p) ha _ q az;have bl:=kF (p:=p) (ha.take i) _ q oH;have da:decide (bM t p<bM t p)=false:=by simp
   rw[aA,da] at bl;have ca:¬bM t p<bM (t.take i) p:=by simpa using bl.symm
   by_cases ic:bM (t.take i) p<bM t p
   ·obtain⟨r,hr⟩:∃r,t[bM (t.take i) p]? =some r:=⟨_,List.getElem?_eq_getElem (by omega)⟩
    have c':(t.take i)[bM (t.take i) p]? =some r:=by rw[List.getElem?_take,if_pos (by omega)];exact hr
    have h8:=kF (p:=p) ha _ r hr;have ib:=kF (p:=p) (ha.take i) _ r c';have sf:decide (bM (t.take i) p<bM (t.take i) p)=false:=by simp
    rw[h8,sf] at ib;have:¬bM (t.take i) p<bM t p:=by simpa using ib
    omega
   ·omega
 unfold kN;rw[nw];congr 1
 by_cases hlt:bM t p<i
 ·rw[List.getElem?_take,if_pos hlt]
 ·have:bM t p=i:=by omega
  rw[this,he,List.getElem?_take,if_neg (by omega)]
  have:(e.path==p)=false:=by
   cases h:(e.path==p) with
   |false=>rfl
   |true=>rw[eq_of_beq h,wm] at hp;cases hp
  simp[this]
def lw(t:List aw)(p:B):Bool:=kN t (bif gn p then i_ p else [])
theorem aew(a)(hs:ci a.1.1.length)(hp:ci a.1.2.1.length)(ha:fJ a.1.1):f153 a=some ((lw a.1.1 a.1.2.1,()),()):=by
 obtain⟨⟨t,p,u⟩,bV⟩:=a;have e1:=ajI ((p,()),()) hp;have e2:=OR ((t,((bif gn p then i_ p else []),())),()) hs ha
 simp only[f153,e1,e2,Option.bind_some,lw,kN,gK,b5];generalize(bif gn p then i_ p else [])=up
 cases (up==[]) with
 |true=>rfl
 |false=>
  cases aq:t[bM t up]? with
  |none=>rfl
  |some e=>simp only[cond_false,cond_true,Option.bind_some,Bool.false_or];cases (e.path==up)<;>rfl
theorem ahX(t:List aw):dC t=(decide (t.length<=16)&&allI (fun i e=>iV t i e&&lw (t.take i) e.path) 0 t):=by
 unfold dC;rw[Hi];cases h:allI (iV t) 0 t with
 |false=>simp
 |true=>
  have ha:=VO h;have:allI (fun i e=>lw (t.take i) e.path) 0 t=t.all (fun e=>kN t (i_ e.path)):=by
   rw[<-gT _ 0 t];refine agn t 0 (fun i e he=>?_)
   rw[Nat.zero_add];have fI:=z8 t 0 h i e he;rw[Nat.zero_add] at fI;have axK:gn e.path=true:=by
    unfold iV eN at fI;simp only[Bool.and_eq_true] at fI;exact fI.1.1
   unfold lw;rw[axK,cond_true];cases hu:(i_ e.path==[]) with
   |true=>unfold kN;rw[hu];rfl
   |false=>exact ahj ha he (ajN hu)
  rw[this];simp only[Bool.true_and];rw[Bool.and_comm]
theorem qt(a)(hs:is a.1.1):f105 a=some ((dC a.1.1,()),()):=by
 obtain⟨⟨t,u⟩,bV⟩:=a;obtain⟨hl,he⟩:=hs;have hl:t.length<=2097152:=hl;have key:IK ((t,(t,((t.length:Int),((0:Int),())))),())=some (bif allI (fun i e=>iV t i e&&lw (t.take i) e.path) 0 t then .inr ((),()) else .inl ((false,()),())):=by
  have:=l_ Br t (fun i (_:Unit)=>((t,(t,((t.length:Int),((i:Int),())))),())) (fun i e _=>some (bif iV t i e&&lw (t.take i) e.path then .inl () else .inr ((.inl ((false,()),())):aC vC))) (fun _=>(.inr ((),()):aC vC))
   (fun i _=>fJ (t.take i)) () (by simp[fJ]) (fun i x _ hx dr=>?_) (fun _ _=>?_)
  ·exact this.trans (yz (fun i e=>iV t i e&&lw (t.take i) e.path) (fun _ s=>s) _ _ t 0 ())
  ·have hi:=cU hx;have hw:au i:=by unfold au;omega
   have hb:=he x (List.mem_of_getElem? hx);refine⟨?_,fun aN aj=>?_⟩
   ·have pX:=aew ((t.take i,(x.path,())),()) (show(t.take i).length<=2097152 by rw[List.length_take];omega) hb.1 dr
    simp only[Br,cf hi,cond_true,b5,hx,Option.bind_some,Ga];rw[ahL _ hb.1 hb.2];simp only[Option.bind_some,iV,Dl];cases eN x with
    |false=>rfl
    |true=>
     simp only[Bool.not_true,cond_false,Bool.true_and,v8];cases i with
     |zero=>
      have ek:bm t 0 0=some (t.take 0):=fY (b:=0) (Nat.zero_le _);have ek:bm t 0 ((0:Nat):Int)=some (t.take 0):=ek;simp only[beq_self_eq_true,Bool.not_true,cond_false,ek,Option.bind_some,pX,Bool.true_or,Bool.true_and];cases lw (t.take 0) x.path with
      |false=>rfl
      |true=>simp only[Bool.not_true,cond_false,cond_true,bX hw];rfl
     |succ i=>
      have h0:(i+1==0)=false:=rfl;have jB:i<t.length:=by omega
      obtain⟨q,az⟩:∃q,t[i]? =some q:=⟨t[i],List.getElem?_eq_getElem jB⟩;have ek:bm t 0 ((i+1:Nat):Int)=some (t.take (i+1)):=fY (by omega)
      simp only[h0,Bool.not_false,cond_true,vd (i:=i) (by unfold au;omega),b5,az,hx,Option.bind_some,Bool.false_or,Nat.add_sub_cancel]
      cases Op.bytesLess q.path x.path with
      |false=>rfl
      |true=>
       simp only[Bool.not_true,cond_false,cond_true,ek,Option.bind_some,pX,Bool.true_and];cases lw (t.take (i+1)) x.path with
       |false=>rfl
       |true=>simp only[Bool.not_true,cond_false,cond_true,bX hw];rfl
   ·simp only[Option.some.injEq] at aj;cases az:(iV t i x&&lw (t.take i) x.path) with
    |false=>rw[az] at aj;cases aj
    |true=>
     simp only[Bool.and_eq_true] at az;have:=az.1;simp only[iV,Bool.and_eq_true] at this;exact Sx hx dr this.2
  ·simp only[Br,dx,cond_false]
 have xV:decide ((t.length:Int)>16)=!decide (t.length<=16):=by by_cases h:t.length<=16<;>simp only[h,decide_true,decide_false,Bool.not_true,Bool.not_false,decide_eq_true_eq,decide_eq_false_iff_not]<;>omega
 simp only[f105,xV,key,Option.bind_some];rw[ahX];cases decide (t.length<=16)<;>cases allI (fun i e=>iV t i e&&lw (t.take i) e.path) 0 t<;>rfl
abbrev i202:Shape:=⟨[aL 0 .entry],[],6⟩
abbrev X2:Shape:=⟨[ba 2 3000128],[a' 3000128 .entry 2 0],6⟩
noncomputable def f202(a:i202.J):Option X2.J:=
(b9 48 ([]:List aw) a.1.1).bind fun b=>
 some (((),()),b,())
noncomputable def xb:aD:=aH ad Tryz.f202 i202 X2 [] f202
theorem C4:aB O 202 xb:=aK g0 Tryz.func202 (by kernel_rfl) ae (fun y=>by kernel_rfl) fun a=>by kernel_rfl
noncomputable abbrev auN:a_:=[(90,xY),(194,Dr),(202,xb)]
theorem LO:aR O (aX ad auN):=aV ⟨DE,z194,C4,⟨⟩⟩
abbrev QA:Shape:=⟨[aL 1 .entry,ba 6 3000384,ag 7,ag 8,ap 9],[a' 3000384 .entry 6 0],69⟩
abbrev Qh:List aP:=[(.norm,⟨[aL 1 .entry,ba 6 3000384,ag 7,ag 8,ap 9,ap 28,ap 29,ap 47],[a' 3000384 .entry 6 0],69⟩)]
noncomputable def F8(y:QA.J):Option (aC Qh):=
 bif y.1.2.2.2.2.1 then
(be y.2.1.length y.1.2.2.2.1).bind fun a=>
(y.2.1[a]?).bind fun b=>
 bif(b.kind !=(1:Int)) then
 some ((y.1.1,(),y.1.2.2.1,y.1.2.2.2.1,y.1.2.2.2.2.1,y.1.2.2.2.2.1,true,true,()),y.2.1,())
else
(aO y.1.1 y.1.2.2.1).bind fun c=>
(be y.2.1.length y.1.2.2.2.1).bind fun d=>
(y.2.1[d]?).bind fun e=>
 some ((y.1.1,(),y.1.2.2.1,y.1.2.2.2.1,y.1.2.2.2.2.1,y.1.2.2.2.2.1,true,(!((c.path==e.path)&&((c.kind==e.kind)&&((c.mode==e.mode)&&(c.text==e.text))))),()),y.2.1,())
else
 some ((y.1.1,(),y.1.2.2.1,y.1.2.2.2.1,y.1.2.2.2.2.1,y.1.2.2.2.2.1,false,false,()),y.2.1,())
theorem aiw:aT O (an (c4 (an (codeOf Tryz.f159) 1 58)) 116 7460) (aU QA Qh F8):=ce LO (by kernel_rfl) ae fun y=>by kernel_rfl
abbrev vD:Shape:=⟨[aL 1 .entry,ba 6 3000384,ag 7],[a' 3000384 .entry 6 0],69⟩
abbrev pc:List aP:=[(.ret,⟨[ba 4 3000256,ap 5],[a' 3000256 .entry 4 0],69⟩),(.exit 0,⟨[ba 6 3000384],[a' 3000384 .entry 6 0],69⟩)]
noncomputable def Bh(y:vD.J):bG vD pc:=
 bif(decide (y.1.2.2.1<(y.1.1.length:Int))) then
(aO y.1.1 y.1.2.2.1).bind fun a=>
(f194 ((y.2.1,a.path,()),())).bind fun b=>
(F8 ((y.1.1,(),y.1.2.2.1,b.1.1,b.1.2.1,()),y.2.1,())).bind fun c=>
 bif c.1.2.2.2.2.2.2.2.1 then
 some (.inr (.inl (((),false,()),([]:List aw),())))
else
 bif(!c.1.2.2.2.2.1) then
(bm c.2.1 (0:Int) c.1.2.2.2.1).bind fun d=>
(b9 48 ([]:List aw) d).bind fun e=>
(aO c.1.1 c.1.2.2.1).bind fun f=>
(b9 48 e ([f]:List aw)).bind fun g=>
(bm c.2.1 c.1.2.2.2.1 (c.2.1.length:Int)).bind fun h=>
(b9 48 g h).bind fun i=>
 some (.inl ((c.1.1,(),(IntKind.i64.wrap (c.1.2.2.1+(1:Int))),()),i,()))
else
 some (.inl ((c.1.1,(),(IntKind.i64.wrap (c.1.2.2.1+(1:Int))),()),c.2.1,()))
else
 some (.inr (.inr (((),()),y.2.1,())))
noncomputable def Iz:vD.J->Option (aC pc):=bu Bh
theorem amF:aT O (an (codeOf Tryz.f159) 1 58) (aU vD pc Iz):=bI LO (by kernel_rfl) (a8 aiw ae) fun y=>by kernel_rfl
abbrev i159:Shape:=⟨[aL 0 .entry,aL 1 .entry],[],69⟩
abbrev Yy:Shape:=⟨[ba 4 3000256,ap 5],[a' 3000256 .entry 4 0],69⟩
noncomputable def f159(a:i159.J):Option Yy.J:=
(f202 ((a.1.1,()),())).bind fun b=>
(Iz ((a.1.2.1,(),(0:Int),()),b.2.1,())).bind fun c=>
(match c with
|.inl d=>
 some (((),d.1.2.1,()),d.2.1,())
|.inr e=>
(f90 ((e.2.1,()),())).bind fun f=>
 some (((),f.1.1,()),e.2.1,()))
noncomputable def _I:aD:=aH ad Tryz.f159 i159 Yy [] f159
theorem z159:aB O 159 _I:=aK LO Tryz.func159 (by kernel_rfl) (a8 amF ae) (fun y=>by kernel_rfl) fun a=>by kernel_rfl
noncomputable abbrev azx:a_:=[(87,Ng),(88,Nf),(89,acI),(90,xY)]
theorem az3:aR O (aX ad azx):=aV ⟨z87,aaI,av7,DE,⟨⟩⟩
abbrev i50:Shape:=⟨[b_ 0 [ah,ah,bn .need,bn .entry]],[],23⟩
abbrev abo:Shape:=⟨[ap 2],[],23⟩
noncomputable def f50(a:i50.J):Option abo.J:=
(f87 ((a.1.1.1,()),())).bind fun b=>
 bif b.1.1 then
(f88 ((a.1.1.2.1,()),())).bind fun c=>
 bif c.1.1 then
(f89 ((a.1.1.1,a.1.1.2.2.1,()),())).bind fun d=>
 bif d.1.1 then
(f90 ((a.1.1.2.2.2.1,()),())).bind fun e=>
 some ((e.1.1,()),())
else
 some ((false,()),())
else
 some ((false,()),())
else
 some ((false,()),())
noncomputable def El:aD:=aH ad Tryz.f50 i50 abo [] f50
theorem LY:aB O 50 El:=aK az3 Tryz.func50 (by kernel_rfl) ae (fun y=>by kernel_rfl) fun a=>by kernel_rfl
noncomputable abbrev azw:a_:=[(99,Nd),(100,Du),(101,V5),(103,V4),(105,xd)]
theorem adj:aR O (aX ad azw):=aV ⟨aaH,Kw,an9,an8,z105,⟨⟩⟩
abbrev UD:Shape:=⟨[ay 1 1 0],[ax 1 [ah,ah,bn .need,bn .entry]],36⟩
abbrev Uq:List aP:=[(.norm,⟨[ay 1 1 0,ap 18],[ax 1 [ah,ah,bn .need,bn .entry]],36⟩)]
noncomputable def JR(y:UD.J):Option (aC Uq):=
(f99 ((y.2.1.1,()),())).bind fun a=>
 bif(!(!a.1.1)) then
(f100 ((y.2.1.2.1,()),())).bind fun b=>
 bif(!(!b.1.1)) then
 some (((),(decide ((y.2.1.2.2.1.length:Int)>(6:Int))),()),(y.2.1.1,y.2.1.2.1,y.2.1.2.2.1,y.2.1.2.2.2.1,()),())
else
 some (((),true,()),(y.2.1.1,y.2.1.2.1,y.2.1.2.2.1,y.2.1.2.2.2.1,()),())
else
 some (((),true,()),(y.2.1.1,y.2.1.2.1,y.2.1.2.2.1,y.2.1.2.2.2.1,()),())
theorem aoL:aT O (an (codeOf Tryz.f55) 1 12) (aU UD Uq JR):=ce adj (by kernel_rfl) ae fun y=>by kernel_rfl
abbrev i55:Shape:=⟨[b_ 0 [ah,ah,bn .need,bn .entry]],[],36⟩
abbrev abn:Shape:=⟨[ap 2],[],36⟩
noncomputable def f55(a:i55.J):Option abn.J:=
(JR (((),()),(a.1.1.1,a.1.1.2.1,a.1.1.2.2.1,a.1.1.2.2.2.1,()),())).bind fun b=>
 bif b.1.2.1 then
 some ((false,()),())
else
(Cv ((b.2.1.2.2.1,(),()),())).bind fun c=>
 bif c.1.1 then
(Cu ((b.2.1.2.2.1,(),([b.2.1.1]:List B),()),())).bind fun d=>
 bif(!d.1.1) then
(f105 ((b.2.1.2.2.2.1,()),())).bind fun e=>
 some ((e.1.1,()),())
else
 some ((false,()),())
else
 some ((false,()),())
noncomputable def Ek:aD:=aH ad Tryz.f55 i55 abn [] f55
theorem LX:aB O 55 Ek:=aK adj Tryz.func55 (by kernel_rfl) (a8 aoL ae) (fun y=>by kernel_rfl) fun a=>by kernel_rfl
noncomputable abbrev arl:a_:=[(55,Ek)]
theorem WY:aR O (aX ad arl):=aV ⟨LX,⟨⟩⟩
abbrev zt:Shape:=⟨[(1,.am (.fn 55 [])),aL 7 .pack,ag 8,ag 9],[],18⟩
abbrev Gp:List aP:=[(.ret,⟨[ap 4],[],18⟩),(.exit 0,⟨[],[],18⟩)]
noncomputable def zS(y:zt.J):bG zt Gp:=
 bif(decide (y.1.2.2.2.1<y.1.2.2.1)) then
(aO y.1.2.1 y.1.2.2.2.1).bind fun a=>
(f55 (((a.name,a.aW,a.bi,a.bB,()),()),())).bind fun b=>
 bif(!b.1.1) then
 some (.inr (.inl ((false,()),())))
else
 some (.inl (((),y.1.2.1,y.1.2.2.1,(IntKind.i64.wrap (y.1.2.2.2.1+(1:Int))),()),()))
else
 some (.inr (.inr ((),())))
noncomputable def GQ:zt.J->Option (aC Gp):=bu zS
theorem akf:aT O (an (codeOf Tryz.f54) 1 26) (aU zt Gp GQ):=bI WY (by kernel_rfl) ae fun y=>by kernel_rfl
abbrev WH:Shape:=⟨[aL 0 .pack,(1,.am (.fn 55 []))],[],18⟩
abbrev Ws:Shape:=⟨[ap 4],[],18⟩
noncomputable def CT(a:WH.J):Option Ws.J:=
(GQ (((),a.1.1,(a.1.1.length:Int),(0:Int),()),())).bind fun b=>
(match b with
|.inl c=>
 some ((c.1.1,()),())
|.inr d=>
 some ((true,()),()))
noncomputable def WW:aD:=aH ad Tryz.f54 WH Ws [] CT
theorem aqh:aB O 54 WW:=aK WY Tryz.func54 (by kernel_rfl) (a8 akf ae) (fun y=>by kernel_rfl) fun a=>by kernel_rfl
abbrev BV:Shape:=⟨[aL 0 .pack,ag 3],[],22⟩
abbrev Jn:List aP:=[(.ret,⟨[ap 2],[],22⟩),(.exit 0,⟨[],[],22⟩)]
noncomputable def Ck(y:BV.J):bG BV Jn:=
 bif(decide (y.1.2.1<(y.1.1.length:Int))) then
(aO y.1.1 (IntKind.i64.wrap (y.1.2.1-(1:Int)))).bind fun a=>
(aO y.1.1 y.1.2.1).bind fun b=>
 bif(!(Op.bytesLess a.name b.name)) then
 some (.inr (.inl ((false,()),())))
else
 some (.inl ((y.1.1,(IntKind.i64.wrap (y.1.2.1+(1:Int))),()),()))
else
 some (.inr (.inr ((),())))
noncomputable def JK:BV.J->Option (aC Jn):=bu Ck
theorem aoK:aT O (an (codeOf Tryz.f56) 1 26) (aU BV Jn JK):=bI g0 (by kernel_rfl) ae fun y=>by kernel_rfl
abbrev i56:Shape:=⟨[aL 0 .pack],[],22⟩
abbrev abm:Shape:=⟨[ap 2],[],22⟩
noncomputable def f56(a:i56.J):Option abm.J:=
(JK ((a.1.1,(1:Int),()),())).bind fun b=>
(match b with
|.inl c=>
 some ((c.1.1,()),())
|.inr d=>
 some ((true,()),()))
noncomputable def acT:aD:=aH ad Tryz.f56 i56 abm [] f56
theorem awg:aB O 56 acT:=aK g0 Tryz.func56 (by kernel_rfl) (a8 aoK ae) (fun y=>by kernel_rfl) fun a=>by kernel_rfl
abbrev jD(p:aG):Prop:=ci p.name.length/\ci p.aW.length/\ua p.bi/\is p.bB
abbrev fb(ps:List aG):Prop:=ci ps.length/\∀p,p∈ps->jD p
def cj(p:aG):Bool:=iD p.name&&ei p.aW&&qP p.name p.bi&&dC p.bB
theorem vq(a)(hb:jD ⟨a.1.1.1,a.1.1.2.1,a.1.1.2.2.1,a.1.1.2.2.2.1⟩):f50 a=some ((cj ⟨a.1.1.1,a.1.1.2.1,a.1.1.2.2.1,a.1.1.2.2.2.1⟩,()),()):=by
 obtain⟨⟨⟨n,v,ns,t,u⟩,bV⟩,nB⟩:=a;obtain⟨h1,h2,h3,aA⟩:=hb;have h1:n.length<=2097152:=h1;have e1:=Rj ((n,()),()) (show n.length<=1099511627776 by omega)
 have e2:=OS ((v,()),()) h2;have br:=ahB ((n,(ns,())),()) h3 h1;have da:=vo ((t,()),()) aA;simp only[f50,e1,e2,br,da,Option.bind_some,cj];cases iD n<;>cases ei v<;>cases qP n ns<;>rfl
theorem yR(a)(hb:jD ⟨a.1.1.1,a.1.1.2.1,a.1.1.2.2.1,a.1.1.2.2.2.1⟩):f55 a=some ((cj ⟨a.1.1.1,a.1.1.2.1,a.1.1.2.2.1,a.1.1.2.2.2.1⟩,()),()):=by
 obtain⟨⟨⟨n,v,ns,t,u⟩,bV⟩,nB⟩:=a;obtain⟨h1,h2,h3,aA⟩:=hb;have h1:n.length<=2097152:=h1;have e1:=OC ((n,()),()) (show n.length<=1099511627776 by omega)
 have e2:=ES ((v,()),()) h2;have br:=ahN ((ns,((),())),()) h3;have da:=qt ((t,()),()) aA;have eS:=aeQ ((ns,((),(([n]:List B),()))),()) h3 (Nat.le_refl _);have ca:decide ((ns.length:Int)>6)=!decide (ns.length<=6):=by by_cases h:ns.length<=6<;>simp only[h,decide_true,decide_false,Bool.not_true,Bool.not_false,decide_eq_true_eq,decide_eq_false_iff_not]<;>omega
 have Z:j0 [] (n::ns.map (·.name))=j0 [n] (ns.map (·.name)):=by simp[j0]
 simp only[f55,JR,e1,e2,Option.bind_some,cj,qP,Z,ca,Bool.not_not];cases iD n with
 |false=>rfl
 |true=>
  cases ei v with
  |false=>rfl
  |true=>
   cases decide (ns.length<=6) with
   |false=>simp only[cond_true,Bool.not_false,Option.bind_some,Bool.and_false,Bool.false_and]
   |true=>
    simp only[cond_true,Bool.not_true,cond_false,Option.bind_some,br,eS,da,Bool.true_and,Bool.and_true];cases List.all ns dD<;>cases j0 [n] (ns.map (·.name))<;>rfl
theorem ahM(a)(hs:fb a.1.1):CT a=some ((a.1.1.all cj,()),()):=by
 obtain⟨⟨ps,u⟩,bV⟩:=a;obtain⟨hl,hn⟩:=hs;have hl:ps.length<=2097152:=hl;have key:GQ (((),(ps,((ps.length:Int),((0:Int),())))),())=some (bif allI (fun _ n=>cj n) 0 ps then .inr ((),()) else .inl ((false,()),())):=by
  refine fX zS ps (fun i=>(((),(ps,((ps.length:Int),((i:Int),())))),())) _ _ _ (fun i x hx=>?_) ?_
  ·have hi:=cU hx;have hw:au i:=by unfold au;omega
   have hb:=hn x (List.mem_of_getElem? hx);simp only[zS,cf hi,cond_true,b5,hx,Option.bind_some];rw[yR _ hb];simp only[Option.bind_some,bX hw];cases cj x<;>rfl
  ·simp only[zS,dx,cond_false]
 rw[gT] at key;simp only[CT,key,Option.bind_some];cases List.all ps cj<;>rfl
def nk(ps:List aG)(i:Nat)(x:aG):Bool:=match ps[i]? with
 |some q=>Op.bytesLess q.name x.name
 |none=>false
def kU(ps:List aG):Bool:=allI (nk ps) 0 ps.tail
theorem aev(a)(hs:ci a.1.1.length):f56 a=some ((kU a.1.1,()),()):=by
 obtain⟨⟨ps,u⟩,bV⟩:=a;have hs:ps.length<=2097152:=hs;have key:JK ((ps,((1:Int),())),())=some (bif allI (nk ps) 0 ps.tail then .inr ((),()) else .inl ((false,()),())):=by
  refine fX Ck ps.tail (fun i=>((ps,(((i+1:Nat):Int),())),())) _ _ _ (fun i x hx=>?_) ?_
  ·have pU:ps[i+1]? =some x:=by rw[List.getElem?_tail] at hx;exact hx
   have hi:=cU pU;have hw:au (i+1):=by unfold au;omega
   obtain⟨q,az⟩:∃q,ps[i]? =some q:=⟨ps[i],List.getElem?_eq_getElem (by omega)⟩
   simp only[Ck,cf hi,cond_true,vd (i:=i) (by unfold au;omega),b5,az,pU,Option.bind_some,bX hw,nk]
   cases Op.bytesLess q.name x.name<;>rfl
  ·have:decide (((ps.tail.length+1:Nat):Int)<(ps.length:Int))=false:=by
    simp only[decide_eq_false_iff_not,List.length_tail];omega
   simp only[Ck,this,cond_false]
 simp only[f56,key,Option.bind_some,kU];cases allI (nk ps) 0 ps.tail<;>rfl
def kA(a b:aw):Bool:=a.path==b.path&&(a.kind==b.kind&&(a.mode==b.mode&&a.text==b.text))
def mx(e q:aw):Bool:=e.kind !=1||!kA e q
theorem alj(a b:aw):kA a b=kA b a:=by
 unfold kA;have h1:(a.path==b.path)=(b.path==a.path):=BEq.comm;have h2:(a.kind==b.kind)=(b.kind==a.kind):=BEq.comm;have h3:(a.mode==b.mode)=(b.mode==a.mode):=BEq.comm;have aA:(a.text==b.text)=(b.text==a.text):=BEq.comm;rw[h1,h2,h3,aA]
theorem anF(e q:aw):mx e q=(q.kind !=1||!kA e q):=by
 unfold mx;cases h:kA e q with
 |false=>simp
 |true=>
  unfold kA at h;simp only[Bool.and_eq_true] at h;rw[show e.kind=q.kind from eq_of_beq h.2.1]
def jV(t:List aw)(k:Nat)(e:aw):List aw:=t.take k++[e]++t.drop k
def gI(out:List aw):List aw->Option (List aw)
 |[]=>some out
 |e::r=>match out[bM out e.path]? with
  |some q=>bif q.path==e.path then(bif mx e q then none else gI out r) else gI (jV out (bM out e.path) e) r
  |none=>gI (jV out (bM out e.path) e) r
theorem QX(t:List aw)(k:Nat)(e:aw)(h:k<=t.length):(jV t k e).length=t.length+1:=by
 unfold jV;simp only[List.length_append,List.length_take,List.length_cons,List.length_nil,List.length_drop];omega
theorem F4{t:List aw}{k:Nat}{e x:aw}(h:x∈jV t k e):x=e\/x∈t:=by
 unfold jV at h;rcases List.mem_append.1 h with h|h
 ·rcases List.mem_append.1 h with h|h
  ·exact .inr (List.mem_of_mem_take h)
  ·exact .inl (by simpa using h)
 ·exact .inr (List.mem_of_mem_drop h)
def hT(out:List aw)(e:aw):Option (List aw):=match out[bM out e.path]? with
 |some q=>bif q.path==e.path then(bif mx e q then none else some out) else some (jV out (bM out e.path) e)
 |none=>some (jV out (bM out e.path) e)
theorem u9(out:List aw)(e:aw)(r:List aw):gI out (e::r)=(hT out e).bind fun D=>gI D r:=by
 unfold hT;rw[gI];cases out[bM out e.path]? with
 |none=>rfl
 |some q=>
  simp only;cases (q.path==e.path) with
  |false=>rfl
  |true=>cases mx e q<;>rfl
theorem yU{out D:List aw}{e:aw}(h:hT out e=some D):D.length<=out.length+1:=by
 unfold hT at h;split at h
 ·rename_i q az;cases hp:(q.path==e.path) with
  |true=>
   rw[hp] at h;cases hc:mx e q with
   |true=>rw[hc] at h;cases h
   |false=>rw[hc] at h;cases h;omega
  |false=>rw[hp] at h;cases h;rw[QX _ _ _ (qN _ _)];omega
 ·cases h;rw[QX _ _ _ (qN _ _)];omega
theorem FJ{out D:List aw}{e x:aw}(h:hT out e=some D)(hx:x∈D):x=e\/x∈out:=by
 unfold hT at h;split at h
 ·rename_i q az;cases hp:(q.path==e.path) with
  |true=>
   rw[hp] at h;cases hc:mx e q with
   |true=>rw[hc] at h;cases h
   |false=>rw[hc] at h;cases h;exact .inr hx
  |false=>rw[hp] at h;cases h;exact F4 hx
 ·cases h;exact F4 hx
theorem anM{t:List aw}{e:aw}(ha:fJ t)(hn:gK t e.path=false):fJ (jV t (bM t e.path) e):=by
 have Zq:∀a,a∈t.take (bM t e.path)->Op.bytesLess a.path e.path=true:=by
  intro a h;obtain⟨k,hk⟩:=List.mem_iff_getElem?.1 h;have acb:k<bM t e.path:=by have:=cU hk;rw[List.length_take] at this;omega
  have MH:t[k]? =some a:=by rw[List.getElem?_take,if_pos acb] at hk;exact hk
  rw[kF ha k a MH];simpa using acb
 have WL:∀a,a∈t.drop (bM t e.path)->Op.bytesLess e.path a.path=true:=by
  intro a h;obtain⟨k,hk⟩:=List.mem_iff_getElem?.1 h;rw[List.getElem?_drop] at hk;have h1:=kF (p:=e.path) ha _ a hk;have h2:Op.bytesLess a.path e.path=false:=by rw[h1];simp
  refine aps _ _ h2 ?_
  cases az:(a.path==e.path) with
  |false=>rfl
  |true=>
   exfalso
   cases k with
   |zero=>
    unfold gK at hn;rw[Nat.add_zero] at hk;rw[hk] at hn;simp only[az] at hn;cases hn
   |succ k=>
    have hlt:=cU hk;obtain⟨q,xI⟩:∃q,t[bM t e.path]? =some q:=⟨_,List.getElem?_eq_getElem (by omega)⟩
    have h3:=List.pairwise_iff_getElem.1 ha (bM t e.path) (bM t e.path+(k+1)) (cU xI) hlt (by omega)
    rw[(List.getElem?_eq_some_iff.1 xI).2,(List.getElem?_eq_some_iff.1 hk).2] at h3;have aA:=kF (p:=e.path) ha _ q xI;rw[<-eq_of_beq az,h3] at aA;simp at aA
 unfold fJ jV;refine List.pairwise_append.2 ⟨List.pairwise_append.2 ⟨ha.take _,by simp,?_⟩,List.Pairwise.sublist (List.drop_sublist _ _) ha,?_⟩
 ·intro a h b hb;have hb:b=e:=by simpa using hb
  subst hb;exact Zq a h
 ·intro a h b hb;rcases List.mem_append.1 h with h|h
  ·exact vy _ _ _ (Zq a h) (WL b hb)
  ·have h:a=e:=by simpa using h
   subst h;exact WL b hb
theorem ah0{out D:List aw}{e:aw}(ha:fJ out)(h:hT out e=some D):fJ D:=by
 unfold hT at h;have hno:∀{b:Bool},gK out e.path=b->b=false->fJ (jV out (bM out e.path) e):=fun h1 h2=>anM ha (h1.trans h2)
 split at h
 ·rename_i q az;cases hp:(q.path==e.path) with
  |true=>
   rw[hp] at h;cases hc:mx e q with
   |true=>rw[hc] at h;cases h
   |false=>rw[hc] at h;cases h;exact ha
  |false=>rw[hp] at h;cases h;exact hno (by unfold gK;rw[az]) hp
 ·rename_i az;cases h;exact hno (by unfold gK;rw[az]) rfl
theorem ajA(a)(ha:is a.1.1)(hb:is a.1.2.1)(hl:a.1.1.length+a.1.2.1.length<=2097152):f159 a=
  some (match gI a.1.1 a.1.2.1 with|some out=>(((),(dC out,())),(out,()))|none=>(((),(false,())),(([]:List aw),()))):=by
 obtain⟨⟨xs,bj,u⟩,bV⟩:=a;have hl:xs.length+bj.length<=2097152:=hl;have hc:f202 ((xs,()),())=some (((),()),(xs,())):=by
  simp only[f202];rw[di (by decide) (by unfold au;simp only[List.length_nil];omega)]
  rfl
 have key:Iz ((bj,((),((0:Int),()))),(xs,()))=_:=l_ Bh bj (fun i (out:List aw)=>((bj,((),((i:Int),()))),(out,())))
  (fun i e out=>some (match hT out e with|some D=>.inl D|none=>.inr ((.inl (((),(false,())),(([]:List aw),()))):aC pc))) (fun out=>((.inr (((),()),(out,()))):aC pc))
  (fun i out=>out.length<=xs.length+i/\∀e,e∈out->lX e) xs ⟨Nat.le_refl _,ha.2⟩ (fun i x out hx dr=>?_) (fun out _=>?_)
 ·have fold:∀(r:List aw) (k:Nat) (out:List aw),eV (fun i e out=>some (match hT out e with|some D=>.inl D|none=>.inr ((.inl (((),(false,())),(([]:List aw),()))):aC pc))) (fun out=>((.inr (((),()),(out,()))):aC pc)) k r out=
    some (match gI out r with|some D=>.inr (((),()),(D,()))|none=>.inl (((),(false,())),(([]:List aw),()))):=by
   intro r;induction r with
   |nil=>intro k out;rfl
   |cons e r ih=>
    intro k out;rw[u9];simp only[eV];cases hT out e with
    |none=>rfl
    |some D=>simp only[Option.bind_some];exact ih _ _
  have mem:∀(r:List aw) (out D:List aw),(∀e,e∈r->lX e)->(∀e,e∈out->lX e)->gI out r=some D->D.length<=out.length+r.length/\∀e,e∈D->lX e:=by
   intro r;induction r with
   |nil=>intro out D _ h2 h;cases h;exact⟨Nat.le_refl _,h2⟩
   |cons e r ih=>
    intro out D h1 h2 h;rw[u9] at h;obtain⟨o1,h3,aA⟩:=Option.bind_eq_some_iff.1 h;have bl:=ih o1 D (fun x hx=>h1 x (List.mem_cons_of_mem _ hx)) (fun x hx=>by
     rcases FJ h3 hx with rfl|h
     ·exact h1 x List.mem_cons_self
     ·exact h2 x h) aA
    have ca:=yU h3;exact⟨by simp only[List.length_cons];omega,bl.2⟩
  rw[fold] at key;simp only[f159,hc,Option.bind_some,key];cases hj:gI xs bj with
  |none=>rfl
  |some D=>
   have hm:=mem bj xs D hb.2 ha.2 hj;simp only[Option.bind_some];rw[vo _ ⟨show D.length<=2097152 by omega,hm.2⟩]
   rfl
 ·have hi:=cU hx;have hw:au i:=by unfold au;omega
  refine⟨?_,fun aN aj=>?_⟩
  ·have mL:=Ja ((out,(x.path,())),()) (show out.length<=2097152 by omega)
   have pX:=qN out x.path;simp only[Bh,cf hi,cond_true,b5,hx,Option.bind_some,mL,F8,gK,hT];have grow:((bm out 0 (bM out x.path:Int)).bind fun asF=>(b9 48 ([]:List aw) asF).bind fun asE=>(b9 48 asE ([x]:List aw)).bind fun asD=>(bm out (bM out x.path:Int) (out.length:Int)).bind fun asC=>(b9 48 asD asC).bind fun asB=>
     (some (.inl ((bj,((),((IntKind.i64.wrap ((i:Int)+(1:Int))),()))),(asB,()))):Option (Sum vD.J (aC pc))))=some (.inl ((bj,((),(((i+1:Nat):Int),()))),(jV out (bM out x.path) x,()))):=by
    have hlen:(out.take (bM out x.path)).length<=out.length:=by rw[List.length_take];omega
    have aBD:(out.drop (bM out x.path)).length<=out.length:=by rw[List.length_drop];omega
    rw[fY pX,Option.bind_some,di (by decide) (by unfold au;simp only[List.length_nil];omega),Option.bind_some,di (by decide) (by unfold au;simp only[List.length_nil,List.length_cons,List.nil_append];omega),Option.bind_some,fw pX,Option.bind_some,
     di (by decide) (by unfold au;simp only[List.length_append,List.length_nil,List.length_cons,List.nil_append];omega),Option.bind_some,bX hw]
    rfl
   cases az:out[bM out x.path]? with
   |none=>simp only[cond_false,Option.bind_some,Bool.not_false,cond_true,b5,hx];exact grow
   |some q=>
    have hin:=fx (cU az);simp only;cases hp:(q.path==x.path) with
    |false=>simp only[cond_false,Option.bind_some,Bool.not_false,cond_true,b5,hx];exact grow
    |true=>
     have uz:((x.path==q.path)&&((x.kind==q.kind)&&((x.mode==q.mode)&&(x.text==q.text))))=kA x q:=rfl;rw[anF];simp only[cond_true,hin,az,Option.bind_some,b5,hx,uz];cases hk:(q.kind !=1) with
     |true=>rfl
     |false=>
      simp only[cond_false,Option.bind_some,Bool.false_or];cases kA x q with
      |false=>rfl
      |true=>simp only[Bool.not_true,cond_false,Option.bind_some,bX hw];rfl
  ·simp only[Option.some.injEq] at aj;cases hs:hT out x with
   |none=>rw[hs] at aj;cases aj
   |some D=>
    rw[hs] at aj;cases aj;have ca:=yU hs;refine⟨by omega,fun e he=>?_⟩
    rcases FJ hs he with rfl|h
    ·exact hb.2 e (List.mem_of_getElem? hx)
    ·exact dr.2 e h
 ·simp only[Bh,dx,cond_false]
noncomputable abbrev avk:a_:=[(159,_I)]
theorem aaB:aR O (aX ad avk):=aV ⟨z159,⟨⟩⟩
abbrev AT:Shape:=⟨[aL 0 .pack,ba 4 3000256,ag 5],[a' 3000256 .entry 4 0],30⟩
abbrev qM:List aP:=[(.ret,⟨[ba 2 3000128,ap 3],[a' 3000128 .entry 2 0],30⟩),(.exit 0,⟨[ba 4 3000256],[a' 3000256 .entry 4 0],30⟩)]
noncomputable def Bp(y:AT.J):bG AT qM:=
 bif(decide (y.1.2.2.1<(y.1.1.length:Int))) then
(aO y.1.1 y.1.2.2.1).bind fun a=>
(f159 ((y.2.1,a.bB,()),())).bind fun b=>
 bif(!b.1.2.1) then
 some (.inr (.inl (((),false,()),([]:List aw),())))
else
 some (.inl ((y.1.1,(),(IntKind.i64.wrap (y.1.2.2.1+(1:Int))),()),b.2.1,()))
else
 some (.inr (.inr (((),()),y.2.1,())))
noncomputable def II:AT.J->Option (aC qM):=bu Bp
theorem amY:aT O (an (codeOf Tryz.f109) 1 58) (aU AT qM II):=bI aaB (by kernel_rfl) ae fun y=>by kernel_rfl
abbrev i109:Shape:=⟨[aL 0 .pack],[],30⟩
abbrev Y8:Shape:=⟨[ba 2 3000128,ap 3],[a' 3000128 .entry 2 0],30⟩
noncomputable def f109(a:i109.J):Option Y8.J:=
(II ((a.1.1,(),(0:Int),()),([]:List aw),())).bind fun b=>
(match b with
|.inl c=>
 some (((),c.1.2.1,()),c.2.1,())
|.inr d=>
 some (((),true,()),d.2.1,()))
noncomputable def _':aD:=aH ad Tryz.f109 i109 Y8 [] f109
theorem z109:aB O 109 _':=aK aaB Tryz.func109 (by kernel_rfl) (a8 amY ae) (fun y=>by kernel_rfl) fun a=>by kernel_rfl
abbrev i229:Shape:=⟨[aL 0 .entry],[],8⟩
abbrev KK:Shape:=⟨[ba 2 3000128],[a' 3000128 .entry 2 0],8⟩
noncomputable def f229(a:i229.J):Option KK.J:=
 qy (t:=.entry) a.1.1 (some (((),()),([]:List aw),())) ((b9 48 ([]:List aw) a.1.1).bind fun b=>
 some (((),()),b,()))
noncomputable def Z6:aD:=aH ad Tryz.f229 i229 KK [] f229
theorem z229:aB O 229 Z6:=aK g0 Tryz.func229 (by kernel_rfl) ae (fun y=>by kernel_rfl) fun a=>by kernel_rfl
theorem ai1(g n c i vb m vc:Nat)(cur vcur:Array Value)(te ve:TypeId)(w:World)(hi:i<n)(hm:0<m)(hroom:n+m<=c)(hc63:c<=9223372036854775807)(hne:vb≠g)
  (hg:w.heap[g]? =some (.cells cur te (0,0))) (hv:w.heap[vb]? =some (.cells vcur ve (0,0))) (hcs:cur.size=c*4) (hvs:m*4<=vcur.size)
  (h1c:∀v∈cur.toList.take (n*4),v.oneCell'=true) (h1v:∀v∈vcur.toList.take (m*4),v.oneCell'=true):
  Calls O 230 #[.slice (some ⟨g,0,none⟩) n c,.int .i64 i,.slice (some ⟨vb,0,none⟩) m vc] w fun e w'=>
   e=.returned (.slice (some ⟨g,0,none⟩) (n+m) c)/\w'=w.drew.setRow g (bP (bP cur.toList ((i+m)*4) ((cur.toList.take (n*4)).drop (i*4))) (i*4) (vcur.toList.take (m*4))).toArray:=by
 have t33:O.underlying 64=some (.slice 178):=by kernel_rfl
 have hsz:(O.info? 178).map (·.size)=some 4:=by kernel_rfl
 have hz1:¬((m:Int)=0):=by omega
 have hz2:¬((i:Int)=(n:Int)):=by omega
 have hov:∀off lb cb,(callFunc 264 #[.slice (some ⟨vb,0,none⟩) m vc,.slice (some ⟨g,off,none⟩) lb cb]).run O w=.ok (.value (.bool false)) w:=fun off lb cb=>by
  rw[run_callFunc_extern Tryz.func264 (by kernel_rfl) (by kernel_rfl) (by kernel_rfl) (e:=Extern.SlicesOverlaps.overlaps #[64,64] #[4]) (by kernel_rfl),
   Lib.run_overlaps_apart w 64 4 178 t33 4 (fun w=>by kernel_rfl) ⟨vb,0,none⟩ ⟨g,off,none⟩ m vc lb cb hne ve te vcur.size cur.size (by simp[World.shape?,hv]) (by simp[World.shape?,hg]) (by omega) (by simp[World.frozen?,hv]) (by simp[World.frozen?,hv])]
  rfl
 have hdl:((cur.toList.take (n*4)).drop (i*4)).length=(n-i)*4:=by simp only[List.length_drop,List.length_take,Array.length_toList,hcs];rw[Nat.min_eq_left (by omega),Nat.sub_mul]
 have hcl:∀j v,(cur.toList.take (n*4))[j]? =some v->w.cell? ⟨g,j,none⟩=some v:=fun j v h=>by
  rw[List.getElem?_take] at h;split at h
  ·simpa[World.cell?,hg] using h
  ·cases h
 have hcv:∀j v,(vcur.toList.take (m*4))[j]? =some v->w.cell? ⟨vb,j,none⟩=some v:=fun j v h=>by
  rw[List.getElem?_take] at h;split at h
  ·simpa[World.cell?,hv] using h
  ·cases h
 have hcp1:∀ty dc sc,(Builtin.copy_ #[64,64] ty #[.slice (some ⟨g,(i+m)*4,none⟩) (n+m-(i+m)) dc,.slice (some ⟨g,i*4,none⟩) (n+m-i) sc]).run O w.drew=
   .ok (goInt (Nat.min (n+m-i) (n+m-(i+m)))) (w.drew.setRow g (bP cur.toList ((i+m)*4) ((cur.toList.take (n*4)).drop (i*4))).toArray):=fun ty dc sc=>
  yH w.drew _ _ ty 178 4 g ((i+m)*4) (n+m-(i+m)) dc ⟨g,i*4,none⟩ (n+m-i) sc cur te _ t33 hsz hg (by rw[hdl];simp only[Nat.min_def];split<;>omega)
   (fun j v hj=>by rw[Addr.add_lit];exact hcl (i*4+j) v (by rwa[List.getElem?_drop] at hj)) (by rw[hdl,hcs];omega) (fun v hv=>h1c v (List.mem_of_mem_drop hv))
 obtain⟨cur1,hcur1⟩:∃cur1,cur1=(bP cur.toList ((i+m)*4) ((cur.toList.take (n*4)).drop (i*4))).toArray:=⟨_,rfl⟩;rw[<-hcur1] at hcp1;have hc1s:cur1.size=c*4:=by rw[hcur1];simp only[bP,List.size_toArray,List.length_append,List.length_drop,List.length_take,Array.length_toList,hcs];omega
 have hcp2:∀(W:World),W.heap=(w.drew.setRow g cur1).heap->∀ty dc,(Builtin.copy_ #[64,64] ty #[.slice (some ⟨g,i*4,none⟩) (n+m-i) dc,.slice (some ⟨vb,0,none⟩) m vc]).run O W=
   .ok (goInt (Nat.min m (n+m-i))) (W.setRow g (bP cur1.toList (i*4) (vcur.toList.take (m*4))).toArray):=fun W hW ty dc=>
  yH W _ _ ty 178 4 g (i*4) (n+m-i) dc ⟨vb,0,none⟩ m vc cur1 te _ t33 hsz (by rw[hW];exact setRow_heap w.drew g cur cur1 te (0,0) hg)
   (by simp only[List.length_take,Array.length_toList,Nat.min_def];split<;>split<;>omega)
   (fun j v hj=>by
    have:=hcv j v hj;rw[Addr.add_lit,Nat.zero_add];unfold World.cell? at this ⊢;rw[hW,show(w.drew.setRow g cur1).heap[vb]? =w.heap[vb]? from setRow_other w.drew g vb cur1 hne];exact this) (by simp only[List.length_take,Array.length_toList];omega) h1v
 have hE:w.drew.setRow g (bP (bP cur.toList ((i+m)*4) ((cur.toList.take (n*4)).drop (i*4))) (i*4) (vcur.toList.take (m*4))).toArray=(w.drew.setRow g cur1).setRow g (bP cur1.toList (i*4) (vcur.toList.take (m*4))).toArray:=by
  rw[setRow_setRow,hcur1]
 rw[hE];clear hE hcur1;have hw1:IntKind.i64.wrap ((i:Int)+(m:Int))=(i:Int)+(m:Int):=by rw[IntKind.wrap_i64];omega
 have hb1:(0:Int)<=(i:Int)+(m:Int):=by omega
 have hin:i<=n:=by omega
 have htn:((i:Int)+(m:Int)).toNat=i+m:=by omega
 have hb2:¬(c=i+m):=by omega
 have hb3:(i:Int)<=(n:Int)+(m:Int):=by omega
 have hb4:¬(c=i):=by omega
 go_enter Tryz.func230,Tryz.ntmps230
 go_wp2_with (simp only[hov])
 go_region_law (refine OZ rfl _ _ 64 64 rfl (.slice (some ⟨g,(i+m)*4,none⟩) (n+m-(i+m)) (c-(i+m))) (.slice (some ⟨g,i*4,none⟩) (n+m-i) (c-i)) (by simp[Act.eval,Act.put]) (by simp[Act.eval,Act.put]) (hcp1 _ _ _) ?_)
 go_wp2_with (at_builtin;refine Oy _ rfl _ _ 64 64 rfl _ _ rfl rfl (hcp2 _ rfl _ _) ?_)
 go_ret
 exact⟨rfl,rfl⟩
theorem ai3(xa:Option Addr)(vc:Nat)(w:World):
  Calls O 230 #[.slice none 0 0,.int .i64 0,.slice xa 0 vc] w fun e w'=>e=.returned (.slice none 0 0)/\w'=w:=by
 go_enter Tryz.func230,Tryz.ntmps230
 go_wp2
 go_ret
 exact⟨rfl,rfl⟩
theorem ai2(g n c i:Nat)(xa:Option Addr)(vc:Nat)(w:World)(hi:i<=n)(hnc:n<=c)(hc63:c<=9223372036854775807):
  Calls O 230 #[.slice (some ⟨g,0,none⟩) n c,.int .i64 i,.slice xa 0 vc] w fun e w'=>e=.returned (.slice (some ⟨g,0,none⟩) n c)/\w'=w:=by
 go_enter Tryz.func230,Tryz.ntmps230
 go_wp2
 all_goals(go_ret;exact⟨rfl,rfl⟩)
theorem ak5(xa:Option Addr)(m vc:Nat)(w:World)(hm:0<m)(v':Value)(W:World)(hr:∀ty,(Builtin.append_ #[64,64] ty #[.slice none 0 0,.slice xa m vc]).run O w=.ok v' W):
  Calls O 230 #[.slice none 0 0,.int .i64 0,.slice xa m vc] w fun e w'=>e=.returned v'/\w'=W:=by
 have hz1:¬((m:Int)=0):=by omega
 go_enter Tryz.func230,Tryz.ntmps230
 go_wp2_with (at_builtin;refine EL _ rfl _ _ 64 64 rfl _ _ rfl rfl (hr _) ?_)
 go_ret
 exact⟨rfl,rfl⟩
theorem ak4(g n c:Nat)(xa:Option Addr)(m vc:Nat)(w:World)(hnc:n<=c)(hc63:c<=9223372036854775807)(hm:0<m)(v':Value)(W:World)(hr:∀ty,(Builtin.append_ #[64,64] ty #[.slice (some ⟨g,0,none⟩) n c,.slice xa m vc]).run O w=.ok v' W):
  Calls O 230 #[.slice (some ⟨g,0,none⟩) n c,.int .i64 n,.slice xa m vc] w fun e w'=>e=.returned v'/\w'=W:=by
 have hz1:¬((m:Int)=0):=by omega
 go_enter Tryz.func230,Tryz.ntmps230
 go_wp2_with (at_builtin;refine EL _ rfl _ _ 64 64 rfl _ _ rfl rfl (hr _) ?_)
 all_goals(go_ret;exact⟨rfl,rfl⟩)
theorem ak3(g n c i vb m vc:Nat)(cur vcur:Array Value)(te ve:TypeId)(w:World)(hi:i<n)(hm:0<m)(hnc:n<=c)(hroom:c<n+m)(hc63:c<=9223372036854775807)(hbig:(n+m)*48<=140737488355328)
  (hg:w.heap[g]? =some (.cells cur te (0,0))) (hv:w.heap[vb]? =some (.cells vcur ve (0,0))) (hcs:cur.size=c*4) (hvs:m*4<=vcur.size)
  (h1c:∀v∈cur.toList.take (n*4),v.oneCell'=true) (h1v:∀v∈vcur.toList.take (m*4),v.oneCell'=true):
  ∃G ROW,∃W:World,G<=maxLen/\n+m<=G/\ROW.size=G*4/\ROW.toList.take (i*4)=cur.toList.take (i*4)/\W.os=w.os/\W.tape=w.tape/\W.output=w.output/\W.heap=w.heap.push (.cells ROW 178 (0,0))/\
  Calls O 230 #[.slice (some ⟨g,0,none⟩) n c,.int .i64 i,.slice (some ⟨vb,0,none⟩) m vc] w fun e w'=>
   e=.returned (.slice (some ⟨w.heap.size,0,none⟩) (n+m) G)/\w'.os=w.os/\w'.tape=w.tape/\w'.output=w.output/\
    w'.heap=(W.setRow w.heap.size (bP (bP ROW.toList (i*4) (vcur.toList.take (m*4))) ((i+m)*4) ((cur.toList.take (n*4)).drop (i*4))).toArray).heap:=by
 have t33:O.underlying 64=some (.slice 178):=by kernel_rfl
 have t3:O.underlying 3=some (.int .i64):=by kernel_rfl
 have hsz:(O.info? 178).map (·.size)=some 4:=by kernel_rfl
 have hinfo:(O.info? 178).map (fun i=>(i.zero.map (·.cells.size),i.size,i.bytes))=some (some 4,4,48):=by kernel_rfl
 obtain⟨i0,hi0,hzz⟩:=Option.map_eq_some_iff.1 hinfo;simp only[Prod.mk.injEq] at hzz;obtain⟨hz0,hzs,hzb⟩:=hzz;obtain⟨z,hz,hzc⟩:=Option.map_eq_some_iff.1 hz0;have hz1:¬((m:Int)=0):=by omega
 have hz2:¬((i:Int)=(n:Int)):=by omega
 have hz3:(c:Int)<(n:Int)+(m:Int):=by omega
 have hgw:g<w.heap.size:=(Array.getElem?_eq_some_iff.1 hg).1;have hvw:vb<w.heap.size:=(Array.getElem?_eq_some_iff.1 hv).1;have hkk:(n:Int)+(m:Int)-(i:Int)=((n+m-i:Nat):Int):=by omega
 have hik:i+(n+m-i)=n+m:=by omega
 have hdl:((cur.toList.take (n*4)).drop (i*4)).length=(n-i)*4:=by simp only[List.length_drop,List.length_take,Array.length_toList,hcs];rw[Nat.min_eq_left (by omega),Nat.sub_mul]
 have hcl:∀j v,(cur.toList.take (n*4))[j]? =some v->w.cell? ⟨g,j,none⟩=some v:=fun j v h=>by
  rw[List.getElem?_take] at h;split at h
  ·simpa[World.cell?,hg] using h
  ·cases h
 have hcv:∀j v,(vcur.toList.take (m*4))[j]? =some v->w.cell? ⟨vb,j,none⟩=some v:=fun j v h=>by
  rw[List.getElem?_take] at h;split at h
  ·simpa[World.cell?,hv] using h
  ·cases h
 have hold:(Builtin.firstCells i0.size i (.slice (some ⟨g,0,none⟩) i c)).run O w.drew=.ok (cur.toList.take (i*4)).toArray w.drew:=by
  rw[hzs];exact run_firstCells_some w.drew 4 i ⟨g,0,none⟩ i c (cur.toList.take (i*4)) (by simp only[List.length_take,Array.length_toList,hcs];omega) (fun j v hj=>by
   rw[Addr.add_lit,Nat.zero_add];refine hcl j v ?_
   rw[List.getElem?_take] at hj ⊢;split at hj
   ·rw[if_pos (by omega)];exact hj
   ·cases hj)
 have hrz:∀ty,(Builtin.append_ #[64,3] ty #[.slice (some ⟨g,0,none⟩) i c,.int .i64 ((n:Int)+(m:Int)-(i:Int))]).run O w=
   .ok (.slice (some ⟨w.heap.size,0,none⟩) (n+m) (grownCap w (n+m) c 178)) (w.drew.alloc (.cells ((cur.toList.take (i*4)).toArray++Builtin.zeroCells z.cells (n+m-i)++Builtin.zeroCells z.cells (grownCap w (n+m) c 178-(n+m))) 178)):=fun ty=>by
  have h:=Lib.run_append_grow_zeros w 64 3 ty 178 i0 z .i64 .i64 t33 t3 hi0 hz (some ⟨g,0,none⟩) i c (cur.toList.take (i*4)) hold (n+m-i) (by omega) (by omega) (by omega) (by omega) (by rw[hzb];omega) (by rw[hzb,hik];exact growslice_fits hroom hbig)
  rw[hik] at h;rw[hkk];exact h
 obtain⟨G,hG⟩:∃G,G=grownCap w (n+m) c 178:=⟨_,rfl⟩;obtain⟨ROW,hROW⟩:∃ROW:Array Value,ROW=(cur.toList.take (i*4)).toArray++Builtin.zeroCells z.cells (n+m-i)++Builtin.zeroCells z.cells (G-(n+m)):=⟨_,rfl⟩;rw[<-hG] at hrz;rw[<-hROW] at hrz;have hGn:n+m<=G:=by rw[hG];exact grownCap_ge w _ _ _
 have hGm:G<=maxLen:=by rw[hG];exact grownCap_le_maxLen w (n+m) c 178 (by unfold maxLen;omega)
 have hG63:G<=9223372036854775807:=by unfold maxLen at hGm;omega
 have hRl:ROW.size=G*4:=by
  rw[hROW];simp only[Array.size_append,List.size_toArray,size_zeroCells,hzc,List.length_take,Array.length_toList,hcs];omega
 have hRt:ROW.toList.take (i*4)=cur.toList.take (i*4):=by
  rw[hROW];simp only[Array.toList_append,List.append_assoc];have:i*4=(cur.toList.take (i*4)).length:=by simp only[List.length_take,Array.length_toList,hcs];omega
  exact List.take_left' this.symm
 refine⟨G,ROW,w.drew.alloc (.cells ROW 178),hGm,hGn,hRl,hRt,rfl,rfl,rfl,rfl,?_⟩;obtain⟨W1,hW1⟩:∃W1,W1=w.drew.alloc (.cells ROW 178):=⟨_,rfl⟩;rw[<-hW1] at hrz ⊢;have hNew:W1.heap[w.heap.size]? =some (.cells ROW 178 (0,0)):=by rw[hW1];exact heap_alloc_new w.drew _
 have hOld:∀b,b<w.heap.size->W1.heap[b]? =w.heap[b]? :=fun b hb=>by rw[hW1];exact RowKit.Below.heap_alloc w.drew _ b hb
 have hos:W1.os=w.os/\W1.tape=w.tape/\W1.output=w.output:=by rw[hW1];exact⟨rfl,rfl,rfl⟩
 have hgN:g≠w.heap.size:=by omega
 have hvN:vb≠w.heap.size:=by omega
 have hcpA:∀(W:World),W.heap=W1.heap->∀ty dc,(Builtin.copy_ #[64,64] ty #[.slice (some ⟨w.heap.size,i*4,none⟩) (n+m-i) dc,.slice (some ⟨vb,0,none⟩) m vc]).run O W=
   .ok (goInt (Nat.min m (n+m-i))) (W.setRow w.heap.size (bP ROW.toList (i*4) (vcur.toList.take (m*4))).toArray):=fun W hW ty dc=>
  yH W _ _ ty 178 4 w.heap.size (i*4) (n+m-i) dc ⟨vb,0,none⟩ m vc ROW 178 _ t33 hsz (by rw[hW];exact hNew)
   (by simp only[List.length_take,Array.length_toList,Nat.min_def];split<;>split<;>omega)
   (fun j v hj=>by
    have:=hcv j v hj;rw[Addr.add_lit,Nat.zero_add];unfold World.cell? at this ⊢;rw[hW,show W1.heap[vb]? =w.heap[vb]? from hOld vb hvw];exact this) (by simp only[List.length_take,Array.length_toList];omega) h1v
 obtain⟨R2,hR2⟩:∃R2,R2=(bP ROW.toList (i*4) (vcur.toList.take (m*4))).toArray:=⟨_,rfl⟩;have hE:W1.setRow w.heap.size (bP (bP ROW.toList (i*4) (vcur.toList.take (m*4))) ((i+m)*4) ((cur.toList.take (n*4)).drop (i*4))).toArray=
   (W1.setRow w.heap.size R2).setRow w.heap.size (bP R2.toList ((i+m)*4) ((cur.toList.take (n*4)).drop (i*4))).toArray:=by rw[setRow_setRow,hR2]
 rw[hE];have hR2s:R2.size=G*4:=by rw[hR2];simp only[bP,List.size_toArray,List.length_append,List.length_drop,List.length_take,Array.length_toList,hRl];omega
 rw[<-hR2] at hcpA;clear hE hR2;have hcpB:∀(W:World),W.heap=(W1.setRow w.heap.size R2).heap->∀ty dc sc,(Builtin.copy_ #[64,64] ty #[.slice (some ⟨w.heap.size,(i+m)*4,none⟩) (n+m-(i+m)) dc,.slice (some ⟨g,i*4,none⟩) (n-i) sc]).run O W=
   .ok (goInt (Nat.min (n-i) (n+m-(i+m)))) (W.setRow w.heap.size (bP R2.toList ((i+m)*4) ((cur.toList.take (n*4)).drop (i*4))).toArray):=fun W hW ty dc sc=>
  yH W _ _ ty 178 4 w.heap.size ((i+m)*4) (n+m-(i+m)) dc ⟨g,i*4,none⟩ (n-i) sc R2 178 _ t33 hsz (by rw[hW];exact setRow_heap W1 w.heap.size ROW R2 178 (0,0) hNew)
   (by rw[hdl];simp only[Nat.min_def];split<;>omega)
   (fun j v hj=>by
    have:=hcl (i*4+j) v (by rwa[List.getElem?_drop] at hj)
    rw[Addr.add_lit];unfold World.cell? at this ⊢;rw[hW,show(W1.setRow w.heap.size R2).heap[g]? =w.heap[g]? from(setRow_other W1 w.heap.size g R2 hgN).trans (hOld g hgw)];exact this) (by rw[hdl,hR2s];omega) (fun v hv=>h1c v (List.mem_of_mem_drop hv))
 have hGi:¬(G=i):=by omega
 have hGim:¬(G=i+m):=by omega
 have hci:¬(c=i):=by omega
 have hw1:IntKind.i64.wrap ((i:Int)+(m:Int))=(i:Int)+(m:Int):=by rw[IntKind.wrap_i64];omega
 have hb1:(0:Int)<=(i:Int)+(m:Int):=by omega
 have hin:i<=n:=by omega
 have htn:((i:Int)+(m:Int)).toNat=i+m:=by omega
 have hb3:(i:Int)<=(n:Int):=by omega
 clear hkk hik hold hROW hG hRl hW1;go_enter Tryz.func230,Tryz.ntmps230
 go_wp2_with (first
  |(at_builtin;refine EL _ rfl _ _ 64 3 rfl _ _ rfl rfl (hrz _) ?_)
  |(at_builtin;refine Oy _ rfl _ _ 64 64 rfl _ _ rfl rfl (hcpA _ rfl _ _) ?_))
 go_region_law (refine OZ rfl _ _ 64 64 rfl (.slice (some ⟨w.heap.size,(i+m)*4,none⟩) (n+m-(i+m)) (G-(i+m))) (.slice (some ⟨g,i*4,none⟩) (n-i) (c-i)) (by simp[Act.eval,Act.put]) (by simp[Act.eval,Act.put]) (hcpB (W1.setRow w.heap.size R2).drew rfl 3 (G-(i+m)) (c-i)) ?_)
 go_wp2
 go_ret
 exact⟨rfl,hos.1,hos.2.1,hos.2.2,rfl⟩
noncomputable def WU:aD:=IL .entry 48
theorem aqf:aB O 230 WU:=ai0 (t:=.entry) (bt:=48) rfl (by decide) (T:=64) (e:=178) ⟨ai3,ai2,ak5,ak4,ai1,ak3⟩ (fun vs w=>enters_of Tryz.func230 (by kernel_rfl) rfl _ _) (by kernel_rfl) (by kernel_rfl)
noncomputable abbrev auv:a_:=[(105,xd),(201,Lr),(229,Z6),(230,WU)]
theorem Dy:aR O (aX ad auv):=aV ⟨z105,z201,z229,aqf,⟨⟩⟩
abbrev Ta:Shape:=⟨[aL 0 .entry,aL 1 .entry],[],59⟩
abbrev SQ:List aP:=[(.norm,⟨[aL 0 .entry,aL 1 .entry,ap 18],[],59⟩)]
noncomputable def IX(y:Ta.J):Option (aC SQ):=
(f105 ((y.1.1,()),())).bind fun a=>
 bif(!(!a.1.1)) then
(f105 ((y.1.2.1,()),())).bind fun b=>
 some ((y.1.1,y.1.2.1,(!b.1.1),()),())
else
 some ((y.1.1,y.1.2.1,true,()),())
theorem ams:aT O (an (codeOf Tryz.f185) 1 12) (aU Ta SQ IX):=ce Dy (by kernel_rfl) ae fun y=>by kernel_rfl
abbrev O2:Shape:=⟨[ba 6 3000384,ay 8 8 0,ag 9,aL 21 .entry,ag 22,ag 23],[a' 3000384 .entry 6 0,ax 8 [ah,a6,a6,ah]],59⟩
abbrev OV:List aP:=[(.norm,⟨[ba 6 3000384,aL 21 .entry,ag 22,ag 23,ap 42,ay 43 8 1,ag 44,ap 45,ap 46,ap 53],[a' 3000384 .entry 6 0,ax 8 [ah,a6,a6,ah]],59⟩)]
noncomputable def E7(y:O2.J):Option (aC OV):=
 bif(y.2.2.1.2.1 !=(1:Int)) then
 some (((),y.1.2.2.2.1,y.1.2.2.2.2.1,y.1.2.2.2.2.2.1,true,(),y.2.2.1.2.1,(y.2.2.1.2.1 !=(1:Int)),true,true,()),y.2.1,(y.2.2.1.1,y.2.2.1.2.1,y.2.2.1.2.2.1,y.2.2.1.2.2.2.1,()),())
else
(be y.2.1.length y.1.2.2.1).bind fun a=>
(y.2.1[a]?).bind fun b=>
 some (((),y.1.2.2.2.1,y.1.2.2.2.2.1,y.1.2.2.2.2.2.1,(!((b.path==y.2.2.1.1)&&((b.kind==y.2.2.1.2.1)&&((b.mode==y.2.2.1.2.2.1)&&(b.text==y.2.2.1.2.2.2.1))))),(),y.2.2.1.2.1,(y.2.2.1.2.1 !=(1:Int)),false,(!((b.path==y.2.2.1.1)&&((b.kind==y.2.2.1.2.1)&&((b.mode==y.2.2.1.2.2.1)&&(b.text==y.2.2.1.2.2.2.1))))),()),y.2.1,(y.2.2.1.1,y.2.2.1.2.1,y.2.2.1.2.2.1,y.2.2.1.2.2.2.1,()),())
theorem afR:aT O (an (c4 (an (codeOf Tryz.f185) 1 122)) 244 250678) (aU O2 OV E7):=ce Dy (by kernel_rfl) ae fun y=>by kernel_rfl
abbrev zB:Shape:=⟨[ba 6 3000384,aL 21 .entry,ag 22,ag 23],[a' 3000384 .entry 6 0],59⟩
abbrev qA:List aP:=[(.ret,⟨[ba 4 3000256,ap 5],[a' 3000256 .entry 4 0],59⟩),(.exit 0,⟨[ba 6 3000384],[a' 3000384 .entry 6 0],59⟩)]
noncomputable def zZ(y:zB.J):bG zB qA:=
 bif(decide (y.1.2.2.2.1<y.1.2.2.1)) then
(aO y.1.2.1 y.1.2.2.2.1).bind fun a=>
(f201 ((y.2.1,a.path,()),())).bind fun b=>
 bif(!b.1.2.1) then
(tR 48 y.2.1 b.1.1 ([a]:List aw)).bind fun c=>
 some (.inl (((),y.1.2.1,y.1.2.2.1,(IntKind.i64.wrap (y.1.2.2.2.1+(1:Int))),()),c,()))
else
(E7 (((),(),b.1.1,y.1.2.1,y.1.2.2.1,y.1.2.2.2.1,()),y.2.1,(a.path,a.kind,a.mode,a.text,()),())).bind fun d=>
 bif d.1.2.2.2.2.1 then
 some (.inr (.inl (((),false,()),([]:List aw),())))
else
 some (.inl (((),d.1.2.1,d.1.2.2.1,(IntKind.i64.wrap (d.1.2.2.2.1+(1:Int))),()),d.2.1,()))
else
 some (.inr (.inr (((),()),y.2.1,())))
noncomputable def GY:zB.J->Option (aC qA):=bu zZ
theorem akw:aT O (an (codeOf Tryz.f185) 1 122) (aU zB qA GY):=bI Dy (by kernel_rfl) (a8 afR ae) fun y=>by kernel_rfl
abbrev i185:Shape:=⟨[aL 0 .entry,aL 1 .entry],[],59⟩
abbrev Yg:Shape:=⟨[ba 4 3000256,ap 5],[a' 3000256 .entry 4 0],59⟩
noncomputable def f185(a:i185.J):Option Yg.J:=
(IX ((a.1.1,a.1.2.1,()),())).bind fun b=>
 bif b.1.2.2.1 then
 some (((),false,()),([]:List aw),())
else
(f229 ((b.1.1,()),())).bind fun c=>
(GY (((),b.1.2.1,(b.1.2.1.length:Int),(0:Int),()),c.2.1,())).bind fun d=>
(match d with
|.inl e=>
 some (((),e.1.2.1,()),e.2.1,())
|.inr f=>
(f105 ((f.2.1,()),())).bind fun g=>
 bif(!g.1.1) then
 some (((),false,()),([]:List aw),())
else
 some (((),true,()),f.2.1,()))
noncomputable def _r:aD:=aH ad Tryz.f185 i185 Yg [] f185
theorem ar7:aB O 185 _r:=aK Dy Tryz.func185 (by kernel_rfl) (a8 ams (a8 akw ae)) (fun y=>by kernel_rfl) fun a=>by kernel_rfl
noncomputable abbrev au5:a_:=[(185,_r)]
theorem aay:aR O (aX ad au5):=aV ⟨ar7,⟨⟩⟩
abbrev AM:Shape:=⟨[ba 4 3000256,aL 9 .pack,ag 10,ag 11],[a' 3000256 .entry 4 0],27⟩
abbrev qL:List aP:=[(.ret,⟨[ba 2 3000128,ap 3],[a' 3000128 .entry 2 0],27⟩),(.exit 0,⟨[ba 4 3000256],[a' 3000256 .entry 4 0],27⟩)]
noncomputable def Bl(y:AM.J):bG AM qL:=
 bif(decide (y.1.2.2.2.1<y.1.2.2.1)) then
(aO y.1.2.1 y.1.2.2.2.1).bind fun a=>
(f185 ((y.2.1,a.bB,()),())).bind fun b=>
 bif(!b.1.2.1) then
 some (.inr (.inl (((),false,()),([]:List aw),())))
else
 some (.inl (((),y.1.2.1,y.1.2.2.1,(IntKind.i64.wrap (y.1.2.2.2.1+(1:Int))),()),b.2.1,()))
else
 some (.inr (.inr (((),()),y.2.1,())))
noncomputable def IE:AM.J->Option (aC qL):=bu Bl
theorem amQ:aT O (an (codeOf Tryz.f133) 1 58) (aU AM qL IE):=bI aay (by kernel_rfl) ae fun y=>by kernel_rfl
abbrev i133:Shape:=⟨[aL 0 .pack],[],27⟩
abbrev YT:Shape:=⟨[ba 2 3000128,ap 3],[a' 3000128 .entry 2 0],27⟩
noncomputable def f133(a:i133.J):Option YT.J:=
(IE (((),a.1.1,(a.1.1.length:Int),(0:Int),()),([]:List aw),())).bind fun b=>
(match b with
|.inl c=>
 some (((),c.1.2.1,()),c.2.1,())
|.inr d=>
 some (((),true,()),d.2.1,()))
noncomputable def _X:aD:=aH ad Tryz.f133 i133 YT [] f133
theorem ass:aB O 133 _X:=aK aay Tryz.func133 (by kernel_rfl) (a8 amQ ae) (fun y=>by kernel_rfl) fun a=>by kernel_rfl
theorem F3:∀(r:List aw) (out D:List aw),(∀e,e∈r->lX e)->(∀e,e∈out->lX e)->gI out r=some D->D.length<=out.length+r.length/\∀e,e∈D->lX e:=by
 intro r;induction r with
 |nil=>intro out D _ h2 h;cases h;exact⟨Nat.le_refl _,h2⟩
 |cons e r ih=>
  intro out D h1 h2 h;rw[u9] at h;obtain⟨o1,h3,aA⟩:=Option.bind_eq_some_iff.1 h;have bl:=ih o1 D (fun x hx=>h1 x (List.mem_cons_of_mem _ hx)) (fun x hx=>by
   rcases FJ h3 hx with rfl|h
   ·exact h1 x List.mem_cons_self
   ·exact h2 x h) aA
  have ca:=yU h3;exact⟨by simp only[List.length_cons];omega,bl.2⟩
theorem E_{t:List aw}(h:dC t=true):fJ t:=by
 unfold dC at h;simp only[Bool.and_eq_true] at h;exact VO h.1.1
theorem jJ{t:List aw}(h:dC t=true):t.length<=16:=by
 unfold dC at h;simp only[Bool.and_eq_true,decide_eq_true_eq] at h;exact h.2
theorem ajM(a)(hs:ci a.1.1.length):f229 a=some (((),()),(a.1.1,())):=by
 obtain⟨⟨xs,u⟩,bV⟩:=a;have hs:xs.length<=2097152:=hs;have h2:(b9 48 ([]:List aw) xs).bind (fun x=>some (((),()),(x,())))=(some (((),()),(xs,())):Option KK.J):=by
  rw[di (by decide) (by unfold au;simp only[List.length_nil];omega)];rfl
 simp only[f229];rw[h2];unfold qy;split
 ·rfl
 ·rename_i h;exact absurd (fun he:xs=[]=>by subst he;rfl) h
theorem agz(a)(ha:is a.1.1)(hb:is a.1.2.1)(h1:dC a.1.1=true)(h2:dC a.1.2.1=true):f185 a=
  some (match gI a.1.1 a.1.2.1 with|some out=>(bif dC out then(((),(true,())),(out,())) else(((),(false,())),(([]:List aw),())))|none=>(((),(false,())),(([]:List aw),()))):=by
 obtain⟨⟨xs,bj,u⟩,bV⟩:=a;have h1:dC xs=true:=h1;have h2:dC bj=true:=h2;have aBS:=jJ h1;have aBR:=jJ h2;have e1:=qt ((xs,()),()) ha;have e2:=qt ((bj,()),()) hb;have br:=ajM ((xs,()),()) (show xs.length<=2097152 by omega)
 have key:GY (((),(bj,((bj.length:Int),((0:Int),())))),(xs,()))=_:=l_ zZ bj (fun i (out:List aw)=>(((),(bj,((bj.length:Int),((i:Int),())))),(out,())))
  (fun i e out=>some (match hT out e with|some D=>.inl D|none=>.inr ((.inl (((),(false,())),(([]:List aw),()))):aC qA))) (fun out=>((.inr (((),()),(out,()))):aC qA))
  (fun i out=>out.length<=xs.length+i/\fJ out) xs ⟨Nat.le_refl _,E_ h1⟩ (fun i x out hx dr=>?_) (fun out _=>?_)
 ·have fold:∀(r:List aw) (k:Nat) (out:List aw),eV (fun i e out=>some (match hT out e with|some D=>.inl D|none=>.inr ((.inl (((),(false,())),(([]:List aw),()))):aC qA))) (fun out=>((.inr (((),()),(out,()))):aC qA)) k r out=
    some (match gI out r with|some D=>.inr (((),()),(D,()))|none=>.inl (((),(false,())),(([]:List aw),()))):=by
   intro r;induction r with
   |nil=>intro k out;rfl
   |cons e r ih=>
    intro k out;rw[u9];simp only[eV];cases hT out e with
    |none=>rfl
    |some D=>simp only[Option.bind_some];exact ih _ _
  rw[fold] at key;simp only[f185,IX,e1,e2,h1,h2,br,Bool.not_true,Bool.not_false,cond_true,cond_false,Option.bind_some,key];cases hj:gI xs bj with
  |none=>rfl
  |some D=>
   have hm:=F3 bj xs D hb.2 ha.2 hj;simp only[Option.bind_some];rw[qt _ ⟨show D.length<=2097152 by omega,hm.2⟩]
   simp only[Option.bind_some];cases dC D<;>rfl
 ·have hi:=cU hx;have hw:au i:=by unfold au;omega
  refine⟨?_,fun aN aj=>?_⟩
  ·have mL:=OR ((out,(x.path,())),()) (show out.length<=2097152 by omega) dr.2
   have pX:=qN out x.path;simp only[zZ,cf hi,cond_true,b5,hx,Option.bind_some,mL,gK,hT];have grow:tR 48 out (bM out x.path:Int) [x]=some (jV out (bM out x.path) x):=by
    unfold tR;rw[if_pos ⟨by omega,by omega,by unfold room;simp only[List.length_cons,List.length_nil];omega,by unfold maxLen;simp only[List.length_cons,List.length_nil];omega⟩,Int.toNat_natCast]
    rfl
   cases az:out[bM out x.path]? with
   |none=>simp only[Bool.not_false,cond_true,grow,Option.bind_some,bX hw];rfl
   |some q=>
    have hin:=fx (cU az);simp only;cases hp:(q.path==x.path) with
    |false=>simp only[Bool.not_false,cond_true,grow,Option.bind_some,bX hw,cond_false];rfl
    |true=>
     have uz:((q.path==x.path)&&((q.kind==x.kind)&&((q.mode==x.mode)&&(q.text==x.text))))=kA q x:=rfl;simp only[Bool.not_true,cond_false,cond_true,E7,hin,az,Option.bind_some,mx,alj x q];cases hk:(x.kind !=1) with
     |true=>rfl
     |false=>
      have aty:(kA q x)=((q.path==x.path)&&((q.kind==x.kind)&&((q.mode==x.mode)&&(q.text==x.text)))):=rfl;rw[aty];cases ((q.path==x.path)&&((q.kind==x.kind)&&((q.mode==x.mode)&&(q.text==x.text)))) with
      |false=>rfl
      |true=>simp only[Bool.not_true,Bool.false_or,cond_false,Option.bind_some,bX hw];rfl
  ·simp only[Option.some.injEq] at aj;cases hs:hT out x with
   |none=>rw[hs] at aj;cases aj
   |some D=>
    rw[hs] at aj;cases aj;have ca:=yU hs;exact⟨by omega,ah0 dr.2 hs⟩
 ·simp only[zZ,dx,cond_false]
def fy(out:List aw):List aG->Option (List aw)
 |[]=>some out
 |p::r=>match gI out p.bB with
  |some D=>bif dC D then fy D r else none
  |none=>none
def stepT(out:List aw)(p:aG):Option (List aw):=match gI out p.bB with
 |some D=>bif dC D then some D else none
 |none=>none
theorem yv(out:List aw)(p:aG)(r:List aG):fy out (p::r)=(stepT out p).bind fun D=>fy D r:=by
 unfold stepT;rw[fy];cases gI out p.bB with
 |none=>rfl
 |some D=>simp only;cases dC D<;>rfl
theorem zo{out D:List aw}{p:aG}(h:stepT out p=some D):dC D=true/\gI out p.bB=some D:=by
 unfold stepT at h;split at h
 ·rename_i c7 aM;cases aq:dC c7 with
  |true=>rw[aq] at h;cases h;exact⟨aq,aM⟩
  |false=>rw[aq] at h;cases h
 ·cases h
theorem ahz(a)(hb:fb a.1.1)(hk:a.1.1.all cj=true):f109 a=some (((),((fy [] a.1.1).isSome,())),((fy [] a.1.1).getD [],())):=by
 obtain⟨⟨ps,u⟩,bV⟩:=a;have hl:ps.length<=2097152:=hb.1;have Ms:∀p,p∈ps->dC p.bB=true/\is p.bB:=by
  intro p hp;have:=List.all_eq_true.1 hk p hp;unfold cj at this;simp only[Bool.and_eq_true] at this;exact⟨this.2,(hb.2 p hp).2.2.2⟩
 have key:II ((ps,((),((0:Int),()))),(([]:List aw),()))=_:=l_ Bp ps (fun i (out:List aw)=>((ps,((),((i:Int),()))),(out,())))
  (fun i p out=>some (match stepT out p with|some D=>.inl D|none=>.inr ((.inl (((),(false,())),(([]:List aw),()))):aC qM))) (fun out=>((.inr (((),()),(out,()))):aC qM))
  (fun i out=>out.length<=16/\∀e,e∈out->lX e) [] ⟨Nat.zero_le _,fun e h=>by cases h⟩ (fun i x out hx dr=>?_) (fun out _=>?_)
 ·have fold:∀(r:List aG) (k:Nat) (out:List aw),eV (fun i p out=>some (match stepT out p with|some D=>.inl D|none=>.inr ((.inl (((),(false,())),(([]:List aw),()))):aC qM))) (fun out=>((.inr (((),()),(out,()))):aC qM)) k r out=
    some (match fy out r with|some D=>.inr (((),()),(D,()))|none=>.inl (((),(false,())),(([]:List aw),()))):=by
   intro r;induction r with
   |nil=>intro k out;rfl
   |cons p r ih=>
    intro k out;rw[yv];simp only[eV];cases stepT out p with
    |none=>rfl
    |some D=>simp only[Option.bind_some];exact ih _ _
  rw[fold] at key;simp only[f109,key,Option.bind_some];cases fy [] ps with
  |none=>rfl
  |some D=>rfl
 ·have hi:=cU hx;have hw:au i:=by unfold au;omega
  obtain⟨Mt,oM⟩:=Ms x (List.mem_of_getElem? hx);have xV:=jJ Mt;have ep:is out:=⟨show out.length<=2097152 by omega,dr.2⟩
  refine⟨?_,fun aN aj=>?_⟩
  ·have hj:=ajA ((out,(x.bB,())),()) ep oM (show out.length+x.bB.length<=2097152 by omega)
   simp only[Bp,cf hi,cond_true,b5,hx,Option.bind_some,hj,stepT];cases gI out x.bB with
   |none=>rfl
   |some D=>
    simp only;cases dC D with
    |false=>rfl
    |true=>simp only[Bool.not_true,cond_false,cond_true,bX hw];rfl
  ·simp only[Option.some.injEq] at aj;cases hs:stepT out x with
   |none=>rw[hs] at aj;cases aj
   |some D=>
    rw[hs] at aj;cases aj;obtain⟨bl,ca⟩:=zo hs;exact⟨jJ bl,(F3 _ _ _ oM.2 dr.2 ca).2⟩
 ·simp only[Bp,dx,cond_false]
theorem Rf(a)(hb:fb a.1.1)(hk:a.1.1.all cj=true):∃out,f109 a=some (((),((fy [] a.1.1).isSome,())),(out,())):=⟨_,ahz a hb hk⟩
theorem aeY(a)(hb:fb a.1.1)(hk:a.1.1.all cj=true):f133 a=some (((),((fy [] a.1.1).isSome,())),((fy [] a.1.1).getD [],())):=by
 obtain⟨⟨ps,u⟩,bV⟩:=a;have hl:ps.length<=2097152:=hb.1;have Ms:∀p,p∈ps->dC p.bB=true/\is p.bB:=by
  intro p hp;have:=List.all_eq_true.1 hk p hp;unfold cj at this;simp only[Bool.and_eq_true] at this;exact⟨this.2,(hb.2 p hp).2.2.2⟩
 have key:IE (((),(ps,((ps.length:Int),((0:Int),())))),(([]:List aw),()))=_:=l_ Bl ps (fun i (out:List aw)=>(((),(ps,((ps.length:Int),((i:Int),())))),(out,())))
  (fun i p out=>some (match stepT out p with|some D=>.inl D|none=>.inr ((.inl (((),(false,())),(([]:List aw),()))):aC qL))) (fun out=>((.inr (((),()),(out,()))):aC qL))
  (fun i out=>dC out=true/\∀e,e∈out->lX e) [] ⟨rfl,fun e h=>by cases h⟩ (fun i x out hx dr=>?_) (fun out _=>?_)
 ·have fold:∀(r:List aG) (k:Nat) (out:List aw),eV (fun i p out=>some (match stepT out p with|some D=>.inl D|none=>.inr ((.inl (((),(false,())),(([]:List aw),()))):aC qL))) (fun out=>((.inr (((),()),(out,()))):aC qL)) k r out=
    some (match fy out r with|some D=>.inr (((),()),(D,()))|none=>.inl (((),(false,())),(([]:List aw),()))):=by
   intro r;induction r with
   |nil=>intro k out;rfl
   |cons p r ih=>
    intro k out;rw[yv];simp only[eV];cases stepT out p with
    |none=>rfl
    |some D=>simp only[Option.bind_some];exact ih _ _
  rw[fold] at key;simp only[f133,key,Option.bind_some];cases fy [] ps with
  |none=>rfl
  |some D=>rfl
 ·have hi:=cU hx;have hw:au i:=by unfold au;omega
  obtain⟨Mt,oM⟩:=Ms x (List.mem_of_getElem? hx);have xV:=jJ dr.1;have ep:is out:=⟨show out.length<=2097152 by omega,dr.2⟩
  refine⟨?_,fun aN aj=>?_⟩
  ·have hj:=agz ((out,(x.bB,())),()) ep oM dr.1 Mt;simp only[Bl,cf hi,cond_true,b5,hx,Option.bind_some,hj,stepT];cases gI out x.bB with
   |none=>rfl
   |some D=>
    simp only;cases dC D with
    |false=>rfl
    |true=>simp only[Bool.not_true,cond_false,cond_true,bX hw];rfl
  ·simp only[Option.some.injEq] at aj;cases hs:stepT out x with
   |none=>rw[hs] at aj;cases aj
   |some D=>
    rw[hs] at aj;cases aj;obtain⟨bl,ca⟩:=zo hs;exact⟨bl,(F3 _ _ _ oM.2 dr.2 ca).2⟩
 ·simp only[Bl,dx,cond_false]
theorem afA(a)(hb:fb a.1.1)(hk:a.1.1.all cj=true):∃out,f133 a=some (((),((fy [] a.1.1).isSome,())),(out,())):=⟨_,aeY a hb hk⟩
abbrev RT:Shape:=⟨[aL 0 .i64,aL 1 .i64,ag 5],[],42⟩
abbrev Rz:List aP:=[(.norm,⟨[aL 0 .i64,aL 1 .i64,ag 5],[],42⟩),(.exit 0,⟨[],[],42⟩)]
noncomputable def sL(y:RT.J):Option (aC Rz):=
 bif(!(decide (y.1.2.2.1<(y.1.1.length:Int)))) then
 bif(decide (y.1.2.2.1<(y.1.2.1.length:Int))) then
 some (.inl ((y.1.1,y.1.2.1,y.1.2.2.1,()),()))
else
 some (.inr ((),()))
else
 some (.inl ((y.1.1,y.1.2.1,y.1.2.2.1,()),()))
theorem akn:aT O (an (c4 (an (codeOf Tryz.f238) 1 26)) 52 104) (aU RT Rz sL):=ce g0 (by kernel_rfl) ae fun y=>by kernel_rfl
abbrev Qv:Shape:=⟨[aL 0 .i64,aL 1 .i64,ag 5,ag 6,ag 7],[],42⟩
abbrev Qc:List aP:=[(.norm,⟨[aL 0 .i64,aL 1 .i64,ag 5,ag 6,ag 7],[],42⟩)]
noncomputable def vk(y:Qv.J):Option (aC Qc):=
 bif(decide (y.1.2.2.1<(y.1.1.length:Int))) then
(aO y.1.1 y.1.2.2.1).bind fun a=>
 some ((y.1.1,y.1.2.1,y.1.2.2.1,a,y.1.2.2.2.2.1,()),())
else
 some ((y.1.1,y.1.2.1,y.1.2.2.1,y.1.2.2.2.1,y.1.2.2.2.2.1,()),())
theorem aio:aT O (an (c4 (an (codeOf Tryz.f238) 1 26)) 52 3366) (aU Qv Qc vk):=ce g0 (by kernel_rfl) ae fun y=>by kernel_rfl
abbrev Qu:Shape:=⟨[aL 0 .i64,aL 1 .i64,ag 5,ag 6,ag 7],[],42⟩
abbrev Qb:List aP:=[(.norm,⟨[aL 0 .i64,aL 1 .i64,ag 5,ag 6,ag 7],[],42⟩)]
noncomputable def vj(y:Qu.J):Option (aC Qb):=
 bif(decide (y.1.2.2.1<(y.1.2.1.length:Int))) then
(aO y.1.2.1 y.1.2.2.1).bind fun a=>
 some ((y.1.1,y.1.2.1,y.1.2.2.1,y.1.2.2.2.1,a,()),())
else
 some ((y.1.1,y.1.2.1,y.1.2.2.1,y.1.2.2.2.1,y.1.2.2.2.2.1,()),())
theorem ain:aT O (an (c4 (an (codeOf Tryz.f238) 1 26)) 52 6734) (aU Qu Qb vj):=ce g0 (by kernel_rfl) ae fun y=>by kernel_rfl
abbrev Am:Shape:=⟨[aL 0 .i64,aL 1 .i64,ag 5],[],42⟩
abbrev HC:List aP:=[(.ret,⟨[ag 4],[],42⟩),(.exit 0,⟨[],[],42⟩)]
noncomputable def sX(y:Am.J):bG Am HC:=
(sL ((y.1.1,y.1.2.1,y.1.2.2.1,()),())).bind fun a=>
(match a with
|.inl b=>
(vk ((b.1.1,b.1.2.1,b.1.2.2.1,((-1):Int),((-1):Int),()),())).bind fun c=>
(vj ((c.1.1,c.1.2.1,c.1.2.2.1,c.1.2.2.2.1,c.1.2.2.2.2.1,()),())).bind fun d=>
 bif(decide (d.1.2.2.2.1<d.1.2.2.2.2.1)) then
 some (.inr (.inl ((((-1):Int),()),())))
else
 bif(decide (d.1.2.2.2.1>d.1.2.2.2.2.1)) then
 some (.inr (.inl (((1:Int),()),())))
else
 some (.inl ((d.1.1,d.1.2.1,(IntKind.i64.wrap (d.1.2.2.1+(1:Int))),()),()))
|.inr e=>
 some (.inr (.inr ((),()))))
noncomputable def ob:Am.J->Option (aC HC):=bu sX
theorem amg:aT O (an (codeOf Tryz.f238) 1 26) (aU Am HC ob):=bI g0 (by kernel_rfl) (a8 akn (a8 aio (a8 ain ae))) fun y=>by kernel_rfl
abbrev i238:Shape:=⟨[aL 0 .i64,aL 1 .i64],[],42⟩
abbrev KJ:Shape:=⟨[ag 4],[],42⟩
noncomputable def f238(a:i238.J):Option KJ.J:=
(ob ((a.1.1,a.1.2.1,(0:Int),()),())).bind fun b=>
(match b with
|.inl c=>
 some ((c.1.1,()),())
|.inr d=>
 some (((0:Int),()),()))
noncomputable def Z2:aD:=aH ad Tryz.f238 i238 KJ [] f238
theorem arN:aB O 238 Z2:=aK g0 Tryz.func238 (by kernel_rfl) (a8 amg ae) (fun y=>by kernel_rfl) fun a=>by kernel_rfl
noncomputable abbrev auo:a_:=[(140,LD),(238,Z2)]
theorem aah:aR O (aX ad auo):=aV ⟨Xb,arN,⟨⟩⟩
abbrev S':Shape:=⟨[ba 5 3000320,ap 6,ba 7 3000448,ap 8],[a' 3000320 .i64 5 0,a' 3000448 .i64 7 0],28⟩
abbrev SP:List aP:=[(.norm,⟨[ba 5 3000320,ba 7 3000448,ap 24],[a' 3000320 .i64 5 0,a' 3000448 .i64 7 0],28⟩)]
noncomputable def IW(y:S'.J):Option (aC SP):=
 bif(!(!y.1.2.1)) then
 some (((),(),(!y.1.2.2.2.1),()),y.2.1,y.2.2.1,())
else
 some (((),(),true,()),y.2.1,y.2.2.1,())
theorem amm:aT O (an (codeOf Tryz.f204) 1 60) (aU S' SP IW):=ce aah (by kernel_rfl) ae fun y=>by kernel_rfl
abbrev i204:Shape:=⟨[ak 0,ak 1],[],28⟩
abbrev X1:Shape:=⟨[ag 4],[],28⟩
noncomputable def f204(a:i204.J):Option X1.J:=
(f140 ((a.1.1,()),())).bind fun b=>
(f140 ((a.1.2.1,()),())).bind fun c=>
(IW (((),b.1.2.1,(),c.1.2.1,()),b.2.1,c.2.1,())).bind fun d=>
 bif d.1.2.2.1 then
 some (((0:Int),()),())
else
(f238 ((d.2.1,d.2.2.1,()),())).bind fun e=>
 some ((e.1.1,()),())
noncomputable def _g:aD:=aH ad Tryz.f204 i204 X1 [] f204
theorem arX:aB O 204 _g:=aK aah Tryz.func204 (by kernel_rfl) (a8 amm ae) (fun y=>by kernel_rfl) fun a=>by kernel_rfl
noncomputable abbrev auM:a_:=[(204,_g)]
theorem avN:aR O (aX ad auM):=aV ⟨arX,⟨⟩⟩
abbrev i161:Shape:=⟨[b_ 0 [ah,a6,ah],ak 1,ak 2],[],30⟩
abbrev Yw:Shape:=⟨[ap 6],[],30⟩
noncomputable def f161(a:i161.J):Option Yw.J:=
 bif(!(a.1.1.1==a.1.2.1)) then
 some ((false,()),())
else
(f204 ((a.1.2.2.1,a.1.1.2.2.1,()),())).bind fun b=>
 bif(a.1.1.2.1==(1:Int)) then
 some (((b.1.1==(0:Int)),()),())
else
 bif(a.1.1.2.1==(2:Int)) then
 some (((decide (b.1.1>=(0:Int))),()),())
else
 bif(a.1.1.2.1==(3:Int)) then
 some (((decide (b.1.1<(0:Int))),()),())
else
 some ((true,()),())
noncomputable def _H:aD:=aH ad Tryz.f161 i161 Yw [] f161
theorem ash:aB O 161 _H:=aK avN Tryz.func161 (by kernel_rfl) ae (fun y=>by kernel_rfl) fun a=>by kernel_rfl
abbrev i288:Shape:=⟨[ag 0],[],6⟩
abbrev Xp:Shape:=⟨[ap 2],[],6⟩
noncomputable def f288(a:i288.J):Option Xp.J:=
 some (((a.1.1 !=a.1.1),()),())
noncomputable def ZK:aD:=aH ad Tryz.f288 i288 Xp [] f288
theorem arv:aB O 288 ZK:=aK g0 Tryz.func288 (by kernel_rfl) ae (fun y=>by kernel_rfl) fun a=>by kernel_rfl
noncomputable abbrev atV:a_:=[(288,ZK)]
theorem avq:aR O (aX ad atV):=aV ⟨arv,⟨⟩⟩
abbrev i286:Shape:=⟨[ag 0,ag 1],[],20⟩
abbrev Xq:Shape:=⟨[ag 4],[],20⟩
noncomputable def f286(a:i286.J):Option Xq.J:=
(f288 ((a.1.1,()),())).bind fun b=>
(f288 ((a.1.2.1,()),())).bind fun c=>
 bif b.1.1 then
 bif c.1.1 then
 some (((0:Int),()),())
else
 some ((((-1):Int),()),())
else
 bif c.1.1 then
 some (((1:Int),()),())
else
 bif(decide (a.1.1<a.1.2.1)) then
 some ((((-1):Int),()),())
else
 bif(decide (a.1.1>a.1.2.1)) then
 some (((1:Int),()),())
else
 some (((0:Int),()),())
noncomputable def ZL:aD:=aH ad Tryz.f286 i286 Xq [] f286
theorem arw:aB O 286 ZL:=aK avq Tryz.func286 (by kernel_rfl) ae (fun y=>by kernel_rfl) fun a=>by kernel_rfl
noncomputable abbrev atX:a_:=[(286,ZL)]
theorem aac:aR O (aX ad atX):=aV ⟨arw,⟨⟩⟩
abbrev Ag:Shape:=⟨[aL 0 .i64,aL 1 .i64,aL 9 .i64,ag 10,ag 11],[],36⟩
abbrev Hu:List aP:=[(.ret,⟨[ag 4],[],36⟩),(.exit 0,⟨[aL 0 .i64,aL 1 .i64],[],36⟩)]
noncomputable def vQ(y:Ag.J):bG Ag Hu:=
 bif(decide (y.1.2.2.2.2.1<y.1.2.2.2.1)) then
(aO y.1.2.2.1 y.1.2.2.2.2.1).bind fun a=>
 bif(decide (y.1.2.2.2.2.1>=(y.1.2.1.length:Int))) then
 some (.inr (.inl (((1:Int),()),())))
else
(aO y.1.2.1 y.1.2.2.2.2.1).bind fun b=>
(f286 ((a,b,()),())).bind fun c=>
 bif(c.1.1 !=(0:Int)) then
 some (.inr (.inl ((c.1.1,()),())))
else
 some (.inl ((y.1.1,y.1.2.1,y.1.2.2.1,y.1.2.2.2.1,(IntKind.i64.wrap (y.1.2.2.2.2.1+(1:Int))),()),()))
else
 some (.inr (.inr ((y.1.1,y.1.2.1,()),())))
noncomputable def pe:Ag.J->Option (aC Hu):=bu vQ
theorem ama:aT O (an (codeOf Tryz.f281) 1 26) (aU Ag Hu pe):=bI aac (by kernel_rfl) ae fun y=>by kernel_rfl
abbrev i281:Shape:=⟨[aL 0 .i64,aL 1 .i64],[],36⟩
abbrev KI:Shape:=⟨[ag 4],[],36⟩
noncomputable def f281(a:i281.J):Option KI.J:=
(pe ((a.1.1,a.1.2.1,a.1.1,(a.1.1.length:Int),(0:Int),()),())).bind fun b=>
(match b with
|.inl c=>
 some ((c.1.1,()),())
|.inr d=>
 bif(decide ((d.1.1.length:Int)<(d.1.2.1.length:Int))) then
 some ((((-1):Int),()),())
else
 some (((0:Int),()),()))
noncomputable def ZO:aD:=aH ad Tryz.f281 i281 KI [] f281
theorem arz:aB O 281 ZO:=aK aac Tryz.func281 (by kernel_rfl) (a8 ama ae) (fun y=>by kernel_rfl) fun a=>by kernel_rfl
noncomputable abbrev at2:a_:=[(281,ZO)]
theorem avt:aR O (aX ad at2):=aV ⟨arz,⟨⟩⟩
abbrev i263:Shape:=⟨[aL 0 .i64,aL 1 .i64],[],8⟩
abbrev XA:Shape:=⟨[ag 4],[],8⟩
noncomputable def f263(a:i263.J):Option XA.J:=
(f281 ((a.1.1,a.1.2.1,()),())).bind fun b=>
 some ((b.1.1,()),())
noncomputable def ZV:aD:=aH ad Tryz.f263 i263 XA [] f263
theorem arG:aB O 263 ZV:=aK avt Tryz.func263 (by kernel_rfl) ae (fun y=>by kernel_rfl) fun a=>by kernel_rfl
noncomputable abbrev aub:a_:=[(151,Lz),(263,ZV)]
theorem aae:aR O (aX ad aub):=aV ⟨W',arG,⟨⟩⟩
abbrev S9:Shape:=⟨[ba 5 3000320,ap 6,ba 7 3000448,ap 8],[a' 3000320 .i64 5 0,a' 3000448 .i64 7 0],28⟩
abbrev SN:List aP:=[(.norm,⟨[ba 5 3000320,ba 7 3000448,ap 24],[a' 3000320 .i64 5 0,a' 3000448 .i64 7 0],28⟩)]
noncomputable def IV(y:S9.J):Option (aC SN):=
 bif(!(!y.1.2.1)) then
 some (((),(),(!y.1.2.2.2.1),()),y.2.1,y.2.2.1,())
else
 some (((),(),true,()),y.2.1,y.2.2.1,())
theorem ami:aT O (an (codeOf Tryz.f227) 1 60) (aU S9 SN IV):=ce aae (by kernel_rfl) ae fun y=>by kernel_rfl
abbrev i227:Shape:=⟨[ak 0,ak 1],[],28⟩
abbrev XL:Shape:=⟨[ag 4],[],28⟩
noncomputable def f227(a:i227.J):Option XL.J:=
(f151 ((a.1.1,()),())).bind fun b=>
(f151 ((a.1.2.1,()),())).bind fun c=>
(IV (((),b.2.2.2.1.1,(),c.2.2.2.1.1,()),b.2.1,c.2.1,())).bind fun d=>
 bif d.1.2.2.1 then
 some (((0:Int),()),())
else
(f263 ((d.2.1,d.2.2.1,()),())).bind fun e=>
 some ((e.1.1,()),())
noncomputable def Z7:aD:=aH ad Tryz.f227 i227 XL [] f227
theorem z227:aB O 227 Z7:=aK aae Tryz.func227 (by kernel_rfl) (a8 ami ae) (fun y=>by kernel_rfl) fun a=>by kernel_rfl
noncomputable abbrev auw:a_:=[(100,Du),(102,xe),(227,Z7)]
theorem aak:aR O (aX ad auw):=aV ⟨Kw,C6,z227,⟨⟩⟩
abbrev Tb:Shape:=⟨[ak 1,ak 2,ay 3 3 0],[ax 3 [ah,a6,ah]],44⟩
abbrev SR:List aP:=[(.norm,⟨[ak 2,ay 3 3 0,ap 20],[ax 3 [ah,a6,ah]],44⟩)]
noncomputable def IY(y:Tb.J):Option (aC SR):=
(f102 (((y.2.1.1,y.2.1.2.1,y.2.1.2.2.1,()),()),())).bind fun a=>
 bif(!(!a.1.1)) then
(f100 ((y.1.2.1,()),())).bind fun b=>
 bif(!(!b.1.1)) then
 some ((y.1.2.1,(),(!(y.1.1==y.2.1.1)),()),(y.2.1.1,y.2.1.2.1,y.2.1.2.2.1,()),())
else
 some ((y.1.2.1,(),true,()),(y.2.1.1,y.2.1.2.1,y.2.1.2.2.1,()),())
else
 some ((y.1.2.1,(),true,()),(y.2.1.1,y.2.1.2.1,y.2.1.2.2.1,()),())
theorem amt:aT O (an (codeOf Tryz.f183) 1 12) (aU Tb SR IY):=ce aak (by kernel_rfl) ae fun y=>by kernel_rfl
abbrev i183:Shape:=⟨[b_ 0 [ah,a6,ah],ak 1,ak 2],[],44⟩
abbrev Yh:Shape:=⟨[ap 6],[],44⟩
noncomputable def f183(a:i183.J):Option Yh.J:=
(IY ((a.1.2.1,a.1.2.2.1,(),()),(a.1.1.1,a.1.1.2.1,a.1.1.2.2.1,()),())).bind fun b=>
 bif b.1.2.2.1 then
 some ((false,()),())
else
 bif(b.2.1.2.1==(1:Int)) then
(f227 ((b.1.1,b.2.1.2.2.1,()),())).bind fun c=>
 some (((c.1.1==(0:Int)),()),())
else
 bif(b.2.1.2.1==(2:Int)) then
(f227 ((b.1.1,b.2.1.2.2.1,()),())).bind fun d=>
 some (((decide (d.1.1>=(0:Int))),()),())
else
 bif(b.2.1.2.1==(3:Int)) then
(f227 ((b.1.1,b.2.1.2.2.1,()),())).bind fun e=>
 some (((decide (e.1.1<(0:Int))),()),())
else
 some ((true,()),())
noncomputable def _s:aD:=aH ad Tryz.f183 i183 Yh [] f183
theorem z183:aB O 183 _s:=aK aak Tryz.func183 (by kernel_rfl) (a8 amt ae) (fun y=>by kernel_rfl) fun a=>by kernel_rfl
def pJ:List Int->List Int->Int
 |[],[]=>0
 |[],_::_=>-1
 |_::_,[]=>1
 |x::a,y::b=>bif decide (x<y) then-1 else bif decide (x>y) then 1 else pJ a b
theorem drop_cons{aJ:Type}{xs:List aJ}{k:Nat}{x:aJ}{r:List aJ}(h:xs.drop k=x::r):xs[k]? =some x/\xs.drop (k+1)=r/\k<xs.length:=by
 have h1:xs[k]? =some x:=by
  have:=congrArg (fun l=>l[0]?) h
  simpa using this
 refine⟨h1,?_,cU h1⟩;have:=congrArg List.tail h;simpa using this
theorem drop_nil{aJ:Type}{xs:List aJ}{k:Nat}(h:xs.drop k=[]):xs.length<=k:=by
 have:=congrArg List.length h;simp at this;omega
theorem ahE(a)(h1:ci a.1.1.length)(h2:ci a.1.2.1.length)(iA:∀x,x∈a.1.1->0<=x)(je:∀x,x∈a.1.2.1->0<=x):f238 a=some ((pJ a.1.1 a.1.2.1,()),()):=by
 obtain⟨⟨xs,bj,u⟩,bV⟩:=a;have h1:xs.length<=2097152:=h1;have h2:bj.length<=2097152:=h2;have iA:∀x:Int,x∈xs->0<=x:=iA;have je:∀x:Int,x∈bj->0<=x:=je;have key:∀(n:Nat) (us ws:List Int) (k:Nat),us.length+ws.length=n->xs.drop k=us->bj.drop k=ws->k<=2097152->
   (ob ((xs,(bj,((k:Int),()))),())).bind (fun asZ=>(match asZ with|.inl asY=>some ((asY.1.1,()),())|.inr aBO=>some (((0:Int),()),()):Option KJ.J))=some ((pJ us ws,()),()):=by
  intro n;induction n using Nat.strongRecOn with
  |_ n ih=>
   intro us ws k hn ha hb hk;have hw:au k:=by unfold au;omega
   match us,ws with
   |[],[]=>
    have c1:=drop_nil ha;have c2:=drop_nil hb;have d1:decide ((k:Int)<(xs.length:Int))=false:=by simp only[decide_eq_false_iff_not];omega
    have d2:decide ((k:Int)<(bj.length:Int))=false:=by simp only[decide_eq_false_iff_not];omega
    have:ob ((xs,(bj,((k:Int),()))),())=some (.inr ((),())):=by
     refine cp ?_
     simp only[sX,sL,d1,d2,Bool.not_false,cond_true,cond_false,Option.bind_some]
    rw[this];rfl
   |[],y::ws=>
    have c1:=drop_nil ha;obtain⟨c2,c3,df⟩:=drop_cons hb;have hy:=je y (List.mem_of_getElem? c2);have d1:decide ((k:Int)<(xs.length:Int))=false:=by simp only[decide_eq_false_iff_not];omega
    have d3:decide ((-1:Int)<y)=true:=by simp only[decide_eq_true_eq];omega
    have:ob ((xs,(bj,((k:Int),()))),())=some (.inl ((((-1):Int),()),())):=by
     refine cp ?_
     simp only[sX,sL,vk,vj,d1,cf df,b5,c2,Bool.not_false,cond_true,cond_false,Option.bind_some,d3]
    rw[this];rfl
   |x::us,[]=>
    have c1:=drop_nil hb;obtain⟨c2,c3,df⟩:=drop_cons ha;have hx:=iA x (List.mem_of_getElem? c2);have d1:decide ((k:Int)<(bj.length:Int))=false:=by simp only[decide_eq_false_iff_not];omega
    have d3:decide (x<(-1:Int))=false:=by simp only[decide_eq_false_iff_not];omega
    have d4:decide (x>(-1:Int))=true:=by simp only[decide_eq_true_eq];omega
    have:ob ((xs,(bj,((k:Int),()))),())=some (.inl (((1:Int),()),())):=by
     refine cp ?_
     simp only[sX,sL,vk,vj,d1,cf df,b5,c2,Bool.not_true,cond_true,cond_false,Option.bind_some,d3,d4]
    rw[this];rfl
   |x::us,y::ws=>
    obtain⟨c2,c3,df⟩:=drop_cons ha;obtain⟨e2,br,da⟩:=drop_cons hb;have step:sX ((xs,(bj,((k:Int),()))),())=some (bif decide (x<y) then .inr (.inl ((((-1):Int),()),())) else bif decide (x>y) then .inr (.inl (((1:Int),()),())) else .inl ((xs,(bj,(((k+1:Nat):Int),()))),())):=by
     simp only[sX,sL,vk,vj,cf df,cf da,b5,c2,e2,Bool.not_true,cond_true,cond_false,Option.bind_some,bX hw];cases decide (x<y)<;>cases decide (x>y)<;>rfl
    rw[pJ];cases hlt:decide (x<y) with
    |true=>rw[hlt,cond_true] at step;rw[show ob ((xs,(bj,((k:Int),()))),())=_ from cp step];rfl
    |false=>
     rw[hlt,cond_false] at step;cases rL:decide (x>y) with
     |true=>rw[rL,cond_true] at step;rw[show ob ((xs,(bj,((k:Int),()))),())=_ from cp step];rfl
     |false=>
      rw[rL,cond_false] at step;rw[show ob ((xs,(bj,((k:Int),()))),())=_ from dM step]
      exact ih (us.length+ws.length) (by simp only[List.length_cons] at hn;omega) us ws (k+1) rfl c3 br (by omega)
 have:=key _ xs bj 0 rfl rfl rfl (Nat.zero_le _);simp only[f238];exact this
theorem ajH(a):f286 a=some ((bif decide (a.1.1<a.1.2.1) then-1 else bif decide (a.1.1>a.1.2.1) then 1 else 0,()),()):=by
 obtain⟨⟨x,y,u⟩,bV⟩:=a;have hx:(x !=x)=false:=by simp
 have hy:(y !=y)=false:=by simp
 simp only[f286,f288,Option.bind_some,hx,hy,cond_false];cases decide (x<y)<;>cases decide (x>y)<;>rfl
theorem ahT(a)(h1:ci a.1.1.length)(h2:ci a.1.2.1.length):f281 a=some ((pJ a.1.1 a.1.2.1,()),()):=by
 obtain⟨⟨xs,bj,u⟩,bV⟩:=a;have h1:xs.length<=2097152:=h1;have h2:bj.length<=2097152:=h2;have key:∀(us ws:List Int) (k:Nat),xs.drop k=us->bj.drop k=ws->k<=xs.length->
   (pe ((xs,(bj,(xs,((xs.length:Int),((k:Int),()))))),())).bind (fun aqC=>(match aqC with
    |.inl aqB=>some ((aqB.1.1,()),())
    |.inr Wk=>bif(decide ((Wk.1.1.length:Int)<(Wk.1.2.1.length:Int))) then some ((((-1):Int),()),()) else some (((0:Int),()),()):Option KI.J))=some ((pJ us ws,()),()):=by
  intro us;induction us with
  |nil=>
   intro ws k ha hb hk;have c1:=drop_nil ha;have d1:decide ((k:Int)<(xs.length:Int))=false:=by simp only[decide_eq_false_iff_not];omega
   have:pe ((xs,(bj,(xs,((xs.length:Int),((k:Int),()))))),())=some (.inr ((xs,(bj,())),())):=by
    refine cp ?_
    simp only[vQ,d1,cond_false]
   rw[this];simp only[Option.bind_some];cases ws with
   |nil=>
    have c2:=drop_nil hb;have:decide ((xs.length:Int)<(bj.length:Int))=false:=by simp only[decide_eq_false_iff_not];omega
    rw[this];rfl
   |cons y ws=>
    obtain⟨_,_,df⟩:=drop_cons hb;rw[cf (show xs.length<bj.length by omega)];rfl
  |cons x us ih=>
   intro ws k ha hb hk;obtain⟨c2,c3,df⟩:=drop_cons ha;have hw:au k:=by unfold au;omega
   cases ws with
   |nil=>
    have c1:=drop_nil hb;have d1:decide ((k:Int)>=(bj.length:Int))=true:=by simp only[decide_eq_true_eq];omega
    have:pe ((xs,(bj,(xs,((xs.length:Int),((k:Int),()))))),())=some (.inl (((1:Int),()),())):=by
     refine cp ?_
     simp only[vQ,cf df,cond_true,b5,c2,Option.bind_some,d1]
    rw[this];rfl
   |cons y ws=>
    obtain⟨e2,br,da⟩:=drop_cons hb;have d1:decide ((k:Int)>=(bj.length:Int))=false:=by simp only[decide_eq_false_iff_not];omega
    have step:vQ ((xs,(bj,(xs,((xs.length:Int),((k:Int),()))))),())=some (bif decide (x<y) then .inr (.inl ((((-1):Int),()),())) else bif decide (x>y) then .inr (.inl (((1:Int),()),())) else .inl ((xs,(bj,(xs,((xs.length:Int),(((k+1:Nat):Int),()))))),())):=by
     simp only[vQ,cf df,b5,c2,e2,d1,cond_true,cond_false,Option.bind_some,ajH,bX hw];cases decide (x<y)<;>cases decide (x>y)<;>rfl
    rw[pJ];cases hlt:decide (x<y) with
    |true=>rw[hlt,cond_true] at step;rw[show pe ((xs,(bj,(xs,((xs.length:Int),((k:Int),()))))),())=_ from cp step];rfl
    |false=>
     rw[hlt,cond_false] at step;cases rL:decide (x>y) with
     |true=>rw[rL,cond_true] at step;rw[show pe ((xs,(bj,(xs,((xs.length:Int),((k:Int),()))))),())=_ from cp step];rfl
     |false=>
      rw[rL,cond_false] at step;rw[show pe ((xs,(bj,(xs,((xs.length:Int),((k:Int),()))))),())=_ from dM step]
      exact ih ws (k+1) c3 br (by omega)
 have:=key xs bj 0 rfl rfl (Nat.zero_le _);simp only[f281];exact this
def re(a b:B):Int:=bif ei a&&ei b then pJ (hS a) (hS b) else 0
theorem OB{s:B}(h:ei s=true):∀x,x∈hS s->0<=x:=by
 intro x hx;unfold hS at hx;obtain⟨p,hp,rfl⟩:=List.mem_map.1 hx;unfold ei at h;simp only[Bool.and_eq_true] at h;have:=List.all_eq_true.1 h.1 p hp;unfold fA at this;simp only[Bool.and_eq_true] at this;exact Pn p 0 this.1.1.1.1 (Int.le_refl _)
theorem yO(s:B):(hS s).length<=s.length+1:=by
 unfold hS ij;rw[List.length_map];exact nZ 46 s
theorem aen(a)(h1:a.1.1.length<=2097151)(h2:a.1.2.1.length<=2097151):f204 a=some ((re a.1.1 a.1.2.1,()),()):=by
 obtain⟨⟨x,y,u⟩,bV⟩:=a;have h1:x.length<=2097151:=h1;have h2:y.length<=2097151:=h2;obtain⟨o1,e1,q1⟩:=Fu ((x,()),()) (show x.length<=2097152 by omega)
 obtain⟨o2,e2,q2⟩:=Fu ((y,()),()) (show y.length<=2097152 by omega)
 simp only[f204,e1,e2,Option.bind_some,IW,re,Bool.not_not];cases hx:ei x with
 |false=>rfl
 |true=>
  cases hy:ei y with
  |false=>rfl
  |true=>
   have axu:=yO x;have DY:=yO y;have aZ:o1=hS x:=q1 hx;have w2:o2=hS y:=q2 hy;subst aZ w2;have br:=ahE ((hS x,(hS y,())),()) (show(hS x).length<=2097152 by omega) (show(hS y).length<=2097152 by omega) (OB hx) (OB hy)
   simp only[cond_true,Bool.not_true,Option.bind_some,cond_false,br,Bool.and_self]
theorem aei(a)(h1:a.1.1.length<=2097151)(h2:a.1.2.1.length<=2097151):f227 a=some ((re a.1.1 a.1.2.1,()),()):=by
 obtain⟨⟨x,y,u⟩,bV⟩:=a;have h1:x.length<=2097151:=h1;have h2:y.length<=2097151:=h2;have e1:=EO ((x,()),()) (show x.length<=2097152 by omega)
 have e2:=EO ((y,()),()) (show y.length<=2097152 by omega)
 simp only[f227,e1,e2,Option.bind_some,IV,re,Bool.not_not];cases hx:ei x with
 |false=>rfl
 |true=>
  cases hy:ei y with
  |false=>rfl
  |true=>
   have axu:=yO x;have DY:=yO y;have br:=ahT ((hS x,(hS y,())),()) (show(hS x).length<=2097152 by omega) (show(hS y).length<=2097152 by omega)
   simp only[cond_true,Bool.not_true,Option.bind_some,cond_false,f263,br,Bool.and_self]
def tG(n:bx)(v:B):Bool:=bif n.kind==1 then re v n.aW==0 else bif n.kind==2 then decide (re v n.aW>=0) else bif n.kind==3 then decide (re v n.aW<0) else true
theorem ajx(a)(h1:a.1.1.2.2.1.length<=2097151)(h2:a.1.2.2.1.length<=2097151)(hn:a.1.2.1=a.1.1.1):f161 a=some ((tG ⟨a.1.1.1,a.1.1.2.1,a.1.1.2.2.1⟩ a.1.2.2.1,()),()):=by
 obtain⟨⟨⟨n,k,v,u⟩,m,w,bV⟩,nB⟩:=a;obtain rfl:m=n:=hn;have e1:=aen ((w,(v,())),()) h2 h1;have eT:(m==m)=true:=by simp
 simp only[f161,eT,e1,Bool.not_true,cond_false,Option.bind_some,tG];cases (k==1)<;>cases (k==2)<;>cases (k==3)<;>rfl
def lE(n:bx)(name v:B):Bool:=dD n&&ei v&&(name==n.name)&&tG n v
theorem agA(a)(h0:ci a.1.1.1.length)(h1:a.1.1.2.2.1.length<=2097151)(h2:a.1.2.2.1.length<=2097151):f183 a=some ((lE ⟨a.1.1.1,a.1.1.2.1,a.1.1.2.2.1⟩ a.1.2.1 a.1.2.2.1,()),()):=by
 obtain⟨⟨⟨n,k,v,u⟩,m,w,bV⟩,nB⟩:=a;have h1:v.length<=2097151:=h1;have h2:w.length<=2097151:=h2;have e1:=aei ((w,(v,())),()) h2 h1;have e2:=yS (((n,(k,(v,()))),()),()) h0 (show v.length<=2097152 by omega)
 have br:=ES ((w,()),()) (show w.length<=2097152 by omega)
 simp only[f183,IY,e1,e2,br,Bool.not_not,Option.bind_some,lE,tG];cases dD ⟨n,k,v⟩ with
 |false=>rfl
 |true=>
  cases ei w with
  |false=>rfl
  |true=>
   cases (m==n) with
   |false=>rfl
   |true=>
    simp only[cond_true,Bool.not_true,Option.bind_some,cond_false,Bool.true_and];cases (k==1)<;>cases (k==2)<;>cases (k==3)<;>simp only[cond_true,cond_false,Option.bind_some,e1]
abbrev AC:Shape:=⟨[aL 0 .pack,ak 1,ag 5],[],20⟩
abbrev HR:List aP:=[(.ret,⟨[ag 4],[],20⟩),(.exit 0,⟨[],[],20⟩)]
noncomputable def Bg(y:AC.J):bG AC HR:=
 bif(decide (y.1.2.2.1<(y.1.1.length:Int))) then
(aO y.1.1 y.1.2.2.1).bind fun a=>
 bif(a.name==y.1.2.1) then
 some (.inr (.inl ((y.1.2.2.1,()),())))
else
 some (.inl ((y.1.1,y.1.2.1,(IntKind.i64.wrap (y.1.2.2.1+(1:Int))),()),()))
else
 some (.inr (.inr ((),())))
noncomputable def sS:AC.J->Option (aC HR):=bu Bg
theorem amE:aT O (an (codeOf Tryz.f160) 1 26) (aU AC HR sS):=bI g0 (by kernel_rfl) ae fun y=>by kernel_rfl
abbrev i160:Shape:=⟨[aL 0 .pack,ak 1],[],20⟩
abbrev Yx:Shape:=⟨[ag 4],[],20⟩
noncomputable def f160(a:i160.J):Option Yx.J:=
(sS ((a.1.1,a.1.2.1,(0:Int),()),())).bind fun b=>
(match b with
|.inl c=>
 some ((c.1.1,()),())
|.inr d=>
 some ((((-1):Int),()),()))
noncomputable def Lx:aD:=aH ad Tryz.f160 i160 Yx [] f160
theorem z160:aB O 160 Lx:=aK g0 Tryz.func160 (by kernel_rfl) (a8 amE ae) (fun y=>by kernel_rfl) fun a=>by kernel_rfl
noncomputable abbrev avj:a_:=[(160,Lx),(161,_H)]
theorem DB:aR O (aX ad avj):=aV ⟨z160,ash,⟨⟩⟩
abbrev O5:Shape:=⟨[aL 0 .pack,ag 3,ag 4,ay 5 5 0,ag 6],[ax 5 [ah,a6,ah]],49⟩
abbrev OY:List aP:=[(.norm,⟨[aL 0 .pack,ag 3,ag 4,ag 35,ap 36,ap 37,ap 48],[],49⟩)]
noncomputable def yy(y:O5.J):Option (aC OY):=
 bif(decide (y.1.2.2.2.2.1<(0:Int))) then
 some ((y.1.1,y.1.2.1,y.1.2.2.1,y.1.2.2.2.2.1,(decide (y.1.2.2.2.2.1<(0:Int))),true,true,()),())
else
(aO y.1.1 y.1.2.2.2.2.1).bind fun a=>
(f161 (((y.2.1.1,y.2.1.2.1,y.2.1.2.2.1,()),y.2.1.1,a.aW,()),())).bind fun b=>
 some ((y.1.1,y.1.2.1,y.1.2.2.1,y.1.2.2.2.2.1,(decide (y.1.2.2.2.2.1<(0:Int))),false,(!b.1.1),()),())
theorem afV:aT O (an (c4 (an (c4 (an (codeOf Tryz.f110) 1 26)) 52 1682)) 3364 215334) (aU O5 OY yy):=ce DB (by kernel_rfl) ae fun y=>by kernel_rfl
abbrev y6:Shape:=⟨[aL 0 .pack,ag 3,ag 4],[],49⟩
abbrev FG:List aP:=[(.ret,⟨[ap 2],[],49⟩),(.exit 2,⟨[aL 0 .pack,ag 3],[],49⟩)]
noncomputable def zi(y:y6.J):bG y6 FG:=
(aO y.1.1 y.1.2.1).bind fun a=>
 bif(decide (y.1.2.2.1<(a.bi.length:Int))) then
(aO y.1.1 y.1.2.1).bind fun b=>
(aO b.bi y.1.2.2.1).bind fun c=>
(f160 ((y.1.1,c.name,()),())).bind fun d=>
(yy ((y.1.1,y.1.2.1,y.1.2.2.1,(),d.1.1,()),(c.name,c.kind,c.aW,()),())).bind fun e=>
 bif e.1.2.2.2.2.2.2.1 then
 some (.inr (.inl ((false,()),())))
else
 some (.inl ((e.1.1,e.1.2.1,(IntKind.i64.wrap (e.1.2.2.1+(1:Int))),()),()))
else
 some (.inr (.inr ((y.1.1,y.1.2.1,()),())))
noncomputable def F0:y6.J->Option (aC FG):=bu zi
theorem aiG:aT O (an (c4 (an (codeOf Tryz.f110) 1 26)) 52 1682) (aU y6 FG F0):=bI DB (by kernel_rfl) (a8 afV ae) fun y=>by kernel_rfl
abbrev AS:Shape:=⟨[aL 0 .pack,ag 3],[],49⟩
abbrev H6:List aP:=[(.ret,⟨[ap 2],[],49⟩),(.exit 0,⟨[],[],49⟩)]
noncomputable def Bo(y:AS.J):bG AS H6:=
 bif(decide (y.1.2.1<(y.1.1.length:Int))) then
(F0 ((y.1.1,y.1.2.1,(0:Int),()),())).bind fun a=>
(match a with
|.inl b=>
 some (.inr (.inl ((b.1.1,()),())))
|.inr c=>
 some (.inl ((c.1.1,(IntKind.i64.wrap (c.1.2.1+(1:Int))),()),())))
else
 some (.inr (.inr ((),())))
noncomputable def IH:AS.J->Option (aC H6):=bu Bo
theorem amX:aT O (an (codeOf Tryz.f110) 1 26) (aU AS H6 IH):=bI DB (by kernel_rfl) (a8 aiG ae) fun y=>by kernel_rfl
abbrev i110:Shape:=⟨[aL 0 .pack],[],49⟩
abbrev Y7:Shape:=⟨[ap 2],[],49⟩
noncomputable def f110(a:i110.J):Option Y7.J:=
(IH ((a.1.1,(0:Int),()),())).bind fun b=>
(match b with
|.inl c=>
 some ((c.1.1,()),())
|.inr d=>
 some ((true,()),()))
noncomputable def _9:aD:=aH ad Tryz.f110 i110 Y7 [] f110
theorem asy:aB O 110 _9:=aK DB Tryz.func110 (by kernel_rfl) (a8 amX ae) (fun y=>by kernel_rfl) fun a=>by kernel_rfl
noncomputable abbrev apQ:a_:=[(54,WW),(56,acT)]
theorem V8:aR O (aX ad apQ):=aV ⟨aqh,awg,⟨⟩⟩
abbrev QD:Shape:=⟨[(0,.am (.eE [.sl .pack] 0))],[],10⟩
abbrev Qk:List aP:=[(.norm,⟨[ap 9],[],10⟩)]
noncomputable def F'(y:QD.J):Option (aC Qk):=
(CT ((y.1.1.1,(),()),())).bind fun a=>
 bif(!(!a.1.1)) then
(f56 ((y.1.1.1,()),())).bind fun b=>
 some (((!b.1.1),()),())
else
 some ((true,()),())
theorem aiB:aT O (an (codeOf Tryz.f128) 1 12) (aU QD Qk F'):=ce V8 (by kernel_rfl) ae fun y=>by kernel_rfl
abbrev Vy:Shape:=⟨[(0,.am (.eE [.sl .pack] 0))],[],10⟩
abbrev U5:Shape:=⟨[ag 1],[],10⟩
noncomputable def tm(a:Vy.J):Option U5.J:=
(F' (((a.1.1.1,()),()),())).bind fun b=>
 bif b.1.1 then
 some (((1:Int),()),())
else
 some (((0:Int),()),())
noncomputable def V1:aD:=aH ad Tryz.f128 Vy U5 [] tm
theorem an5:aB O 128 V1:=aK V8 Tryz.func128 (by kernel_rfl) (a8 aiB ae) (fun y=>by kernel_rfl) fun a=>by kernel_rfl
abbrev Vx:Shape:=⟨[(0,.am (.eE [.sl .pack] 0))],[],5⟩
abbrev U4:Shape:=⟨[ag 1],[],5⟩
noncomputable def tl(a:Vx.J):Option U4.J:=
 bif(decide ((a.1.1.1.length:Int)>(5:Int))) then
 some (((6:Int),()),())
else
 some (((0:Int),()),())
noncomputable def V0:aD:=aH ad Tryz.f129 Vx U4 [] tl
theorem an4:aB O 129 V0:=aK g0 Tryz.func129 (by kernel_rfl) ae (fun y=>by kernel_rfl) fun a=>by kernel_rfl
noncomputable abbrev apH:a_:=[(183,_s)]
theorem ap1:aR O (aX ad apH):=aV ⟨z183,⟨⟩⟩
abbrev Vo:Shape:=⟨[b_ 0 [ah,ah,bn .need,bn .entry],(1,.am (.eE [.str,.int .i64,.str] 0))],[],10⟩
abbrev UV:Shape:=⟨[ap 3],[],10⟩
noncomputable def JX(a:Vo.J):Option UV.J:=
(f183 (((a.1.2.1.1,a.1.2.1.2.1,a.1.2.1.2.2.1,()),a.1.1.1,a.1.1.2.1,()),())).bind fun b=>
 some ((b.1.1,()),())
noncomputable def VV:aD:=aH ad Tryz.f182 Vo UV [] JX
theorem anZ:aB O 182 VV:=aK ap1 Tryz.func182 (by kernel_rfl) ae (fun y=>by kernel_rfl) fun a=>by kernel_rfl
noncomputable abbrev apD:a_:=[(182,VV)]
theorem V7:aR O (aX ad apD):=aV ⟨anZ,⟨⟩⟩
abbrev y0:Shape:=⟨[aL 0 .pack,(1,.am (.fn 182 [[.str,.int .i64,.str]])),ag 7,ag 8],[],19⟩
abbrev FA:List aP:=[(.ret,⟨[ag 4],[],19⟩),(.exit 0,⟨[],[],19⟩)]
noncomputable def zc(y:y0.J):bG y0 FA:=
 bif(decide (y.1.2.2.2.1<y.1.2.2.1)) then
(aO y.1.1 y.1.2.2.2.1).bind fun a=>
(JX (((a.name,a.aW,a.bi,a.bB,()),(y.1.2.1.1.1,y.1.2.1.1.2.1,y.1.2.1.1.2.2.1,()),()),())).bind fun b=>
 bif b.1.1 then
 some (.inr (.inl ((y.1.2.2.2.1,()),())))
else
 some (.inl ((y.1.1,((y.1.2.1.1.1,y.1.2.1.1.2.1,y.1.2.1.1.2.2.1,()),()),y.1.2.2.1,(IntKind.i64.wrap (y.1.2.2.2.1+(1:Int))),()),()))
else
 some (.inr (.inr ((),())))
noncomputable def sC:y0.J->Option (aC FA):=bu zc
theorem aiq:aT O (an (codeOf Tryz.f228) 1 26) (aU y0 FA sC):=bI V7 (by kernel_rfl) ae fun y=>by kernel_rfl
abbrev Vk:Shape:=⟨[aL 0 .pack,(1,.am (.fn 182 [[.str,.int .i64,.str]]))],[],19⟩
abbrev Jv:Shape:=⟨[ag 4],[],19⟩
noncomputable def Cp(a:Vk.J):Option Jv.J:=
(sC ((a.1.1,((a.1.2.1.1.1,a.1.2.1.1.2.1,a.1.2.1.1.2.2.1,()),()),(a.1.1.length:Int),(0:Int),()),())).bind fun b=>
(match b with
|.inl c=>
 some ((c.1.1,()),())
|.inr d=>
 some ((((-1):Int),()),()))
noncomputable def VS:aD:=aH ad Tryz.f228 Vk Jv [] Cp
theorem anW:aB O 228 VS:=aK V7 Tryz.func228 (by kernel_rfl) (a8 aiq ae) (fun y=>by kernel_rfl) fun a=>by kernel_rfl
noncomputable abbrev apG:a_:=[(228,VS)]
theorem ap0:aR O (aX ad apG):=aV ⟨anW,⟨⟩⟩
abbrev Vn:Shape:=⟨[aL 0 .pack,(1,.am (.fn 182 [[.str,.int .i64,.str]]))],[],9⟩
abbrev UU:Shape:=⟨[ap 4],[],9⟩
noncomputable def Cq(a:Vn.J):Option UU.J:=
(Cp ((a.1.1,((a.1.2.1.1.1,a.1.2.1.1.2.1,a.1.2.1.1.2.2.1,()),()),()),())).bind fun b=>
 some (((decide (b.1.1>=(0:Int))),()),())
noncomputable def VU:aD:=aH ad Tryz.f184 Vn UU [] Cq
theorem anY:aB O 184 VU:=aK ap0 Tryz.func184 (by kernel_rfl) ae (fun y=>by kernel_rfl) fun a=>by kernel_rfl
noncomputable abbrev au6:a_:=[(184,VU)]
theorem LR:aR O (aX ad au6):=aV ⟨anY,⟨⟩⟩
abbrev y3:Shape:=⟨[aL 0 .pack,aL 8 .pack,ag 9,ag 10,aL 15 .need,ag 16,ag 17],[],28⟩
abbrev FD:List aP:=[(.ret,⟨[ap 2],[],28⟩),(.exit 2,⟨[aL 0 .pack,aL 8 .pack,ag 9,ag 10],[],28⟩)]
noncomputable def zg(y:y3.J):bG y3 FD:=
 bif(decide (y.1.2.2.2.2.2.2.1<y.1.2.2.2.2.2.1)) then
(aO y.1.2.2.2.2.1 y.1.2.2.2.2.2.2.1).bind fun a=>
(Cq ((y.1.1,((a.name,a.kind,a.aW,()),()),()),())).bind fun b=>
 bif(!b.1.1) then
 some (.inr (.inl ((false,()),())))
else
 some (.inl ((y.1.1,y.1.2.1,y.1.2.2.1,y.1.2.2.2.1,y.1.2.2.2.2.1,y.1.2.2.2.2.2.1,(IntKind.i64.wrap (y.1.2.2.2.2.2.2.1+(1:Int))),()),()))
else
 some (.inr (.inr ((y.1.1,y.1.2.1,y.1.2.2.1,y.1.2.2.2.1,()),())))
noncomputable def FX:y3.J->Option (aC FD):=bu zg
theorem aiA:aT O (an (c4 (an (codeOf Tryz.f131) 1 26)) 52 6758) (aU y3 FD FX):=bI LR (by kernel_rfl) ae fun y=>by kernel_rfl
abbrev AN:Shape:=⟨[aL 0 .pack,aL 8 .pack,ag 9,ag 10],[],28⟩
abbrev H1:List aP:=[(.ret,⟨[ap 2],[],28⟩),(.exit 0,⟨[],[],28⟩)]
noncomputable def Bm(y:AN.J):bG AN H1:=
 bif(decide (y.1.2.2.2.1<y.1.2.2.1)) then
(aO y.1.2.1 y.1.2.2.2.1).bind fun a=>
(FX ((y.1.1,y.1.2.1,y.1.2.2.1,y.1.2.2.2.1,a.bi,(a.bi.length:Int),(0:Int),()),())).bind fun b=>
(match b with
|.inl c=>
 some (.inr (.inl ((c.1.1,()),())))
|.inr d=>
 some (.inl ((d.1.1,d.1.2.1,d.1.2.2.1,(IntKind.i64.wrap (d.1.2.2.2.1+(1:Int))),()),())))
else
 some (.inr (.inr ((),())))
noncomputable def IF:AN.J->Option (aC H1):=bu Bm
theorem amR:aT O (an (codeOf Tryz.f131) 1 26) (aU AN H1 IF):=bI LR (by kernel_rfl) (a8 aiA ae) fun y=>by kernel_rfl
abbrev i131:Shape:=⟨[aL 0 .pack],[],28⟩
abbrev YU:Shape:=⟨[ap 2],[],28⟩
noncomputable def f131(a:i131.J):Option YU.J:=
(IF ((a.1.1,a.1.1,(a.1.1.length:Int),(0:Int),()),())).bind fun b=>
(match b with
|.inl c=>
 some ((c.1.1,()),())
|.inr d=>
 some ((true,()),()))
noncomputable def _Y:aD:=aH ad Tryz.f131 i131 YU [] f131
theorem z131:aB O 131 _Y:=aK LR Tryz.func131 (by kernel_rfl) (a8 amR ae) (fun y=>by kernel_rfl) fun a=>by kernel_rfl
noncomputable abbrev apP:a_:=[(131,_Y)]
theorem ap8:aR O (aX ad apP):=aV ⟨z131,⟨⟩⟩
abbrev Vw:Shape:=⟨[(0,.am (.eE [.sl .pack] 0))],[],5⟩
abbrev U3:Shape:=⟨[ag 1],[],5⟩
noncomputable def tk(a:Vw.J):Option U3.J:=
(f131 ((a.1.1.1,()),())).bind fun b=>
 bif(!b.1.1) then
 some (((4:Int),()),())
else
 some (((0:Int),()),())
noncomputable def VZ:aD:=aH ad Tryz.f130 Vw U3 [] tk
theorem an3:aB O 130 VZ:=aK ap8 Tryz.func130 (by kernel_rfl) ae (fun y=>by kernel_rfl) fun a=>by kernel_rfl
noncomputable abbrev apO:a_:=[(133,_X)]
theorem ap7:aR O (aX ad apO):=aV ⟨ass,⟨⟩⟩
abbrev Vv:Shape:=⟨[(0,.am (.eE [.sl .pack] 0))],[],11⟩
abbrev U2:Shape:=⟨[ag 1],[],11⟩
noncomputable def tj(a:Vv.J):Option U2.J:=
(f133 ((a.1.1.1,()),())).bind fun b=>
 bif(!b.1.2.1) then
 some (((5:Int),()),())
else
 some (((0:Int),()),())
noncomputable def VY:aD:=aH ad Tryz.f132 Vv U2 [] tj
theorem an2:aB O 132 VY:=aK ap7 Tryz.func132 (by kernel_rfl) ae (fun y=>by kernel_rfl) fun a=>by kernel_rfl
noncomputable abbrev azv:a_:=[(50,El),(109,_'),(110,_9)]
theorem Nz:aR O (aX ad azv):=aV ⟨LY,z109,asy,⟨⟩⟩
abbrev S5:Shape:=⟨[aL 0 .pack,ag 3],[],52⟩
abbrev SJ:List aP:=[(.norm,⟨[aL 0 .pack,ag 3,aL 12 .pack,ag 13,(14,.am (.eE [.str,.str,.sl .need,.sl .entry] 0)),b_ 15 [ah,ah,bn .need,bn .entry],ap 16,ap 17,ap 18,ap 35],[],52⟩)]
noncomputable def A6(y:S5.J):Option (aC SJ):=
(aO y.1.1 y.1.2.1).bind fun a=>
(f50 (((a.name,a.aW,a.bi,a.bB,()),()),())).bind fun b=>
 bif(!b.1.1) then
 some ((y.1.1,y.1.2.1,y.1.1,y.1.2.1,(a.name,a.aW,a.bi,a.bB,()),(a.name,a.aW,a.bi,a.bB,()),b.1.1,(!b.1.1),true,true,()),())
else
 bif(decide (y.1.2.1>(0:Int))) then
(aO y.1.1 (IntKind.i64.wrap (y.1.2.1-(1:Int)))).bind fun c=>
(aO y.1.1 y.1.2.1).bind fun d=>
 some ((y.1.1,y.1.2.1,y.1.1,y.1.2.1,(a.name,a.aW,a.bi,a.bB,()),(a.name,a.aW,a.bi,a.bB,()),b.1.1,(!b.1.1),false,(!(Op.bytesLess c.name d.name)),()),())
else
 some ((y.1.1,y.1.2.1,y.1.1,y.1.2.1,(a.name,a.aW,a.bi,a.bB,()),(a.name,a.aW,a.bi,a.bB,()),b.1.1,(!b.1.1),false,false,()),())
theorem al3:aT O (an (c4 (an (codeOf Tryz.f60) 1 26)) 52 840) (aU S5 SJ A6):=ce Nz (by kernel_rfl) ae fun y=>by kernel_rfl
abbrev BU:Shape:=⟨[aL 0 .pack,ag 3],[],52⟩
abbrev Jm:List aP:=[(.ret,⟨[ag 2],[],52⟩),(.exit 0,⟨[aL 0 .pack],[],52⟩)]
noncomputable def qY(y:BU.J):bG BU Jm:=
 bif(decide (y.1.2.1<(y.1.1.length:Int))) then
(A6 ((y.1.1,y.1.2.1,()),())).bind fun a=>
 bif a.1.2.2.2.2.2.2.2.2.2.1 then
 some (.inr (.inl (((1:Int),()),())))
else
 some (.inl ((a.1.1,(IntKind.i64.wrap (a.1.2.1+(1:Int))),()),()))
else
 some (.inr (.inr ((y.1.1,()),())))
noncomputable def B4:BU.J->Option (aC Jm):=bu qY
theorem aoJ:aT O (an (codeOf Tryz.f60) 1 26) (aU BU Jm B4):=bI Nz (by kernel_rfl) (a8 al3 ae) fun y=>by kernel_rfl
abbrev i60:Shape:=⟨[aL 0 .pack],[],52⟩
abbrev abl:Shape:=⟨[ag 2],[],52⟩
noncomputable def f60(a:i60.J):Option abl.J:=
(B4 ((a.1.1,(0:Int),()),())).bind fun b=>
(match b with
|.inl c=>
 some ((c.1.1,()),())
|.inr d=>
(f109 ((d.1.1,()),())).bind fun e=>
 bif(decide ((d.1.1.length:Int)>(5:Int))) then
 some (((6:Int),()),())
else
(f110 ((d.1.1,()),())).bind fun f=>
 bif(!f.1.1) then
 some (((4:Int),()),())
else
 bif(!e.1.2.1) then
 some (((5:Int),()),())
else
 some (((0:Int),()),()))
noncomputable def Ni:aD:=aH ad Tryz.f60 i60 abl [] f60
theorem aaK:aB O 60 Ni:=aK Nz Tryz.func60 (by kernel_rfl) (a8 aoJ ae) (fun y=>by kernel_rfl) fun a=>by kernel_rfl
noncomputable abbrev azM:a_:=[(60,Ni)]
theorem aAb:aR O (aX ad azM):=aV ⟨aaK,⟨⟩⟩
abbrev i30:Shape:=⟨[b_ 0 [bn .pack]],[],7⟩
abbrev abB:Shape:=⟨[ap 2],[],7⟩
noncomputable def f30(a:i30.J):Option abB.J:=
(f60 ((a.1.1.1,()),())).bind fun b=>
 some (((b.1.1==(0:Int)),()),())
noncomputable def uH:aD:=aH ad Tryz.f30 i30 abB [] f30
theorem xk:aB O 30 uH:=aK aAb Tryz.func30 (by kernel_rfl) ae (fun y=>by kernel_rfl) fun a=>by kernel_rfl
noncomputable abbrev uK:a_:=[(128,V1),(129,V0),(130,VZ),(132,VY)]
theorem ada:aR O (aX ad uK):=aV ⟨an5,an4,an3,an2,⟨⟩⟩
abbrev Wh:Shape:=⟨[ay 1 1 0],[ax 1 [bn .pack]],24⟩
abbrev pv:List aP:=[(.ret,⟨[ag 2],[],24⟩)]
noncomputable def q4(c:Int):aC pv:=((c,()),())
noncomputable def Kj(y:Wh.J):Option (aC pv):=
 qZ y.2.1.1 q4 [fun ps=>tm (((ps,()),()),()),fun ps=>tl (((ps,()),()),()),fun ps=>tk (((ps,()),()),()),fun ps=>tj (((ps,()),()),())]
theorem aql:∀ps k i,exec (gV (aX ad uK) []) (an (c4 (an (codeOf Tryz.f81) 1 58)) 116 3737) 3737 (((gx 24).st (hD 24 ps k i)).set 5 (b6 (.clo 128 [(1,0)]))) (q5 24 pv)=((fun ps=>tm (((ps,()),()),())) ps).bind fun r=>bif(r.1.1 !=0) then some (.inr (q4 r.1.1)) else some (.inl (hD 24 ps k i)):=fun ps k i=>by kernel_rfl
theorem aqk:∀ps k i,exec (gV (aX ad uK) []) (an (c4 (an (codeOf Tryz.f81) 1 58)) 116 3737) 3737 (((gx 24).st (hD 24 ps k i)).set 5 (b6 (.clo 129 [(1,0)]))) (q5 24 pv)=((fun ps=>tl (((ps,()),()),())) ps).bind fun r=>bif(r.1.1 !=0) then some (.inr (q4 r.1.1)) else some (.inl (hD 24 ps k i)):=fun ps k i=>by kernel_rfl
theorem aqj:∀ps k i,exec (gV (aX ad uK) []) (an (c4 (an (codeOf Tryz.f81) 1 58)) 116 3737) 3737 (((gx 24).st (hD 24 ps k i)).set 5 (b6 (.clo 130 [(1,0)]))) (q5 24 pv)=((fun ps=>tk (((ps,()),()),())) ps).bind fun r=>bif(r.1.1 !=0) then some (.inr (q4 r.1.1)) else some (.inl (hD 24 ps k i)):=fun ps k i=>by kernel_rfl
theorem aqi:∀ps k i,exec (gV (aX ad uK) []) (an (c4 (an (codeOf Tryz.f81) 1 58)) 116 3737) 3737 (((gx 24).st (hD 24 ps k i)).set 5 (b6 (.clo 132 [(1,0)]))) (q5 24 pv)=((fun ps=>tj (((ps,()),()),())) ps).bind fun r=>bif(r.1.1 !=0) then some (.inr (q4 r.1.1)) else some (.inl (hD 24 ps k i)):=fun ps k i=>by kernel_rfl
theorem aqD:aT O (an (codeOf Tryz.f81) 1 3) (aU Wh pv Kj):=
 agj (C:=gV (aX ad uK) []) (os:=pv) (nt:=24) (T:=165) (e:=164) (m0:=((opsOf (an (codeOf Tryz.f81) 1 6)).getD 0 default)) (m1:=((opsOf (an (codeOf Tryz.f81) 1 6)).getD 1 default)) (m2:=((opsOf (an (codeOf Tryz.f81) 1 6)).getD 2 default)) (m3:=((opsOf (an (codeOf Tryz.f81) 1 6)).getD 3 default)) (m4:=((opsOf (an (codeOf Tryz.f81) 1 6)).getD 4 default)) (m5:=((opsOf (an (codeOf Tryz.f81) 1 6)).getD 5 default)) (n0:=((opsOf (an (codeOf Tryz.f81) 1 28)).getD 0 default)) (n1:=((opsOf (an (codeOf Tryz.f81) 1 28)).getD 1 default)) (n2:=((opsOf (an (codeOf Tryz.f81) 1 28)).getD 2 default)) (q0:=((opsOf (an (c4 (an (codeOf Tryz.f81) 1 58)) 116 232)).getD 0 default)) (r0:=((opsOf (an (c4 (an (codeOf Tryz.f81) 1 58)) 116 3736)).getD 0 default)) (r1:=((opsOf (an (c4 (an (codeOf Tryz.f81) 1 58)) 116 3736)).getD 1 default)) (r2:=((opsOf (an (c4 (an (codeOf Tryz.f81) 1 58)) 116 3736)).getD 2 default))
  (i1:=tu (an (codeOf Tryz.f81) 1 6)) (i2:=tu (an (codeOf Tryz.f81) 1 28)) (i3:=tu (an (c4 (an (codeOf Tryz.f81) 1 58)) 116 232)) (i4:=tu (an (c4 (an (codeOf Tryz.f81) 1 58)) 116 3736)) (BB:=(an (c4 (an (codeOf Tryz.f81) 1 58)) 116 3737)) (r8:=(an (c4 (an (codeOf Tryz.f81) 1 58)) 116 935)) (E:=(an (codeOf Tryz.f81) 1 15)) (p3:=232) (pB:=3737) (p8:=935) (pE:=15) (g0:=128) (g1:=129) (g2:=130) (g3:=132) (c0:=fun ps=>tm (((ps,()),()),())) (c1:=fun ps=>tl (((ps,()),()),())) (c2:=fun ps=>tk (((ps,()),()),())) (c3:=fun ps=>tj (((ps,()),()),())) (mk:=q4) ada
  {ru:=(by kernel_rfl),L3:=(by kernel_rfl),aV:=⟨(by kernel_rfl),(by kernel_rfl),(by kernel_rfl),(by kernel_rfl),(by kernel_rfl),(by kernel_rfl),(by kernel_rfl),(by kernel_rfl),(by kernel_rfl),(by kernel_rfl),(by kernel_rfl),(by kernel_rfl)⟩,NL:=⟨(by kernel_rfl),(by kernel_rfl)⟩,on:=⟨(by kernel_rfl),(by kernel_rfl),(by kernel_rfl)⟩,DP:=⟨(by kernel_rfl),(by kernel_rfl),(by kernel_rfl)⟩,dst:=⟨(by kernel_rfl),(by kernel_rfl),(by kernel_rfl),(by kernel_rfl),(by kernel_rfl),(by kernel_rfl),(by kernel_rfl),(by kernel_rfl)⟩,KP:=(by decide),L_:=(by kernel_rfl),abP:=(by kernel_rfl),abO:=(by kernel_rfl),wr:=(by kernel_rfl),awB:=(by kernel_rfl),
   kQ:=⟨(fun f hf=>by cases hf),lp (by kernel_rfl) ae,lp (by kernel_rfl) ae,lp (by kernel_rfl) ae⟩,hos:=(fun _ _=>rfl),aA:=(fun ps=>by kernel_rfl),wY:=(fun ps k i=>by kernel_rfl),hlt:=(fun ps k i=>by kernel_rfl),
   hB:=(fun gc h=>by
    simp only[List.mem_cons,List.not_mem_nil,or_false] at h;rcases h with rfl|rfl|rfl|rfl
    ·exact aql
    ·exact aqk
    ·exact aqj
    ·exact aqi),
   h8:=(fun ps k i=>by kernel_rfl),hE:=(fun ps k i=>by kernel_rfl)} (fun ps=>rfl) (by kernel_rfl)
abbrev i81:Shape:=⟨[aL 0 .pack],[],24⟩
abbrev abb:Shape:=⟨[ag 2],[],24⟩
noncomputable def f81(a:i81.J):Option abb.J:=
(Kj (((),()),(a.1.1,()),())).bind fun b=>
 some ((b.1.1,()),())
noncomputable def acM:aD:=aH ad Tryz.f81 i81 abb [] f81
theorem awa:aB O 81 acM:=aK ada Tryz.func81 (by kernel_rfl) (a8 aqD ae) (fun y=>by kernel_rfl) fun a=>by kernel_rfl
noncomputable abbrev azD:a_:=[(81,acM)]
theorem az6:aR O (aX ad azD):=aV ⟨awa,⟨⟩⟩
abbrev i43:Shape:=⟨[b_ 0 [bn .pack]],[],7⟩
abbrev abv:Shape:=⟨[ap 2],[],7⟩
noncomputable def f43(a:i43.J):Option abv.J:=
(f81 ((a.1.1.1,()),())).bind fun b=>
 some (((b.1.1==(0:Int)),()),())
noncomputable def Em:aD:=aH ad Tryz.f43 i43 abv [] f43
theorem LZ:aB O 43 Em:=aK az6 Tryz.func43 (by kernel_rfl) ae (fun y=>by kernel_rfl) fun a=>by kernel_rfl
theorem Rh(a)(hs:ci a.1.1.length):(∃(k:Nat) (q:aG),f160 a=some (((k:Int),()),())/\a.1.1[k]? =some q/\a.1.1.find? (fun p=>p.name==a.1.2.1)=some q)\/
  (f160 a=some ((((-1):Int),()),())/\a.1.1.find? (fun p=>p.name==a.1.2.1)=none):=by
 obtain⟨⟨ps,name,u⟩,bV⟩:=a;have hs:ps.length<=2097152:=hs;have key:∀(r:List aG) (k:Nat),ps.drop k=r->k<=ps.length->(∃(j:Nat) (q:aG),sS ((ps,(name,((k:Int),()))),())=some (.inl (((j:Int),()),()))/\ps[j]? =some q/\r.find? (fun p=>p.name==name)=some q)\/
   (sS ((ps,(name,((k:Int),()))),())=some (.inr ((),()))/\r.find? (fun p=>p.name==name)=none):=by
  intro r;induction r with
  |nil=>
   intro k hr hk;have:=drop_nil hr;have d1:decide ((k:Int)<(ps.length:Int))=false:=by simp only[decide_eq_false_iff_not];omega
   refine .inr ⟨cp ?_,rfl⟩;simp only[Bg,d1,cond_false]
  |cons q r ih=>
   intro k hr hk;obtain⟨c1,c2,c3⟩:=drop_cons hr;have hw:au k:=by unfold au;omega
   have step:Bg ((ps,(name,((k:Int),()))),())=some (bif q.name==name then .inr (.inl (((k:Int),()),())) else .inl ((ps,(name,(((k+1:Nat):Int),()))),())):=by
    simp only[Bg,cf c3,cond_true,b5,c1,Option.bind_some,bX hw];cases (q.name==name)<;>rfl
   cases az:(q.name==name) with
   |true=>
    rw[az,cond_true] at step;exact .inl ⟨k,q,cp step,c1,by simp[List.find?_cons,az]⟩
   |false=>
    rw[az,cond_false] at step;rcases ih (k+1) c2 c3 with⟨j,fB,h1,h2,h3⟩|⟨h1,h2⟩
    ·exact .inl ⟨j,fB,(dM step).trans h1,h2,by simp[List.find?_cons,az];exact h3⟩
    ·exact .inr ⟨(dM step).trans h1,by simp only[List.find?_cons,az];exact h2⟩
 rcases key ps 0 rfl (Nat.zero_le _) with⟨j,q,h1,h2,h3⟩|⟨h1,h2⟩
 ·have h1:sS ((ps,(name,((0:Int),()))),())=some (.inl (((j:Int),()),())):=h1;exact .inl ⟨j,q,by simp only[f160,h1,Option.bind_some],h2,h3⟩
 ·have h1:sS ((ps,(name,((0:Int),()))),())=some (.inr ((),())):=h1;exact .inr ⟨by simp only[f160,h1,Option.bind_some],h2⟩
abbrev jI(ps:List aG):Prop:=∀p,p∈ps->p.aW.length<=2097151/\∀n,n∈p.bi->n.aW.length<=2097151
def iG(ps:List aG)(n:bx):Bool:=match ps.find? (fun q=>q.name==n.name) with
 |some q=>tG n q.aW
 |none=>false
def jT(ps:List aG)(n:bx):Bool:=ps.any fun q=>lE n q.name q.aW
theorem P0(a)(hb:fb a.1.1)(hv:jI a.1.1):f110 a=some ((a.1.1.all (fun p=>p.bi.all (iG a.1.1)),()),()):=by
 obtain⟨⟨ps,u⟩,bV⟩:=a;have hl:ps.length<=2097152:=hb.1;have inner:∀(i:Nat) (p:aG),ps[i]? =some p->F0 ((ps,((i:Int),((0:Int),()))),())=some (bif p.bi.all (iG ps) then .inr ((ps,((i:Int),())),()) else .inl ((false,()),())):=by
  intro i p hp;have uo:=List.mem_of_getElem? hp;have D6:p.bi.length<=2097152:=(hb.2 p uo).2.2.1.1;have:=fX zi p.bi (fun k=>((ps,((i:Int),((k:Int),()))),())) (fun _ n=>iG ps n) (.inl ((false,()),())) (.inr ((ps,((i:Int),())),())) (fun k n hn=>?_) ?_
  ·have:=this;rw[gT] at this;exact this
  ·have hk:=cU hn;have hw:au k:=by unfold au;omega
   have k1:=List.mem_of_getElem? hn;have h8:=Rh ((ps,(n.name,())),()) hl;simp only[zi,b5,hp,Option.bind_some,cf hk,cond_true,hn];rcases h8 with⟨j,q,h1,h2,h3⟩|⟨h1,h2⟩
   ·have h2:ps[j]? =some q:=h2;have h3:ps.find? (fun p=>p.name==n.name)=some q:=h3
    have az:=hv q (List.mem_of_getElem? h2);have hf:=ajx (((n.name,(n.kind,(n.aW,()))),(n.name,(q.aW,()))),()) ((hv p uo).2 n k1) az.1 rfl;have hj:decide ((j:Int)<0)=false:=by simp only[decide_eq_false_iff_not];omega
    simp only[h1,Option.bind_some,yy,hj,cond_false,b5,h2,hf,iG,h3,bX hw];cases tG n q.aW<;>rfl
   ·have h2:ps.find? (fun p=>p.name==n.name)=none:=h2
    have hj:decide ((-1:Int)<0)=true:=rfl;simp only[h1,Option.bind_some,yy,hj,cond_true,iG,h2,cond_false]
  ·simp only[zi,b5,hp,Option.bind_some,dx,cond_false]
 have key:IH ((ps,((0:Int),())),())=some (bif allI (fun _ p=>p.bi.all (iG ps)) 0 ps then .inr ((),()) else .inl ((false,()),())):=by
  refine fX Bo ps (fun i=>((ps,((i:Int),())),())) _ _ _ (fun i x hx=>?_) ?_
  ·have hi:=cU hx;have hw:au i:=by unfold au;omega
   simp only[Bo,cf hi,cond_true,inner i x hx,Option.bind_some];cases x.bi.all (iG ps)
   ·rfl
   ·simp only[cond_true,bX hw]
  ·simp only[Bo,dx,cond_false]
 rw[gT] at key;simp only[f110,key,Option.bind_some];cases List.all ps (fun p=>p.bi.all (iG ps))<;>rfl
theorem aeP(a)(hb:fb a.1.1)(hv:jI a.1.1):f131 a=some ((a.1.1.all (fun p=>p.bi.all (jT a.1.1)),()),()):=by
 obtain⟨⟨ps,u⟩,bV⟩:=a;have hl:ps.length<=2097152:=hb.1;have hcon:∀n:bx,ci n.name.length->n.aW.length<=2097151->Cq ((ps,(((n.name,(n.kind,(n.aW,()))),()),())),())=some ((jT ps n,()),()):=by
  intro n hn1 axQ;have key:∀(r:List aG) (k:Nat),ps.drop k=r->k<=ps.length->∃z:Int,(sC ((ps,(((n.name,(n.kind,(n.aW,()))),()),((ps.length:Int),((k:Int),())))),())).bind (fun aqA=>(match aqA with
    |.inl aqz=>some ((aqz.1.1,()),())
    |.inr aBC=>some ((((-1):Int),()),()):Option Jv.J))=some ((z,()),())/\decide (z>=0)=r.any (fun q=>lE n q.name q.aW):=by
   intro r;induction r with
   |nil=>
    intro k hr hk;have:=drop_nil hr;have d1:decide ((k:Int)<(ps.length:Int))=false:=by simp only[decide_eq_false_iff_not];omega
    have:sC ((ps,(((n.name,(n.kind,(n.aW,()))),()),((ps.length:Int),((k:Int),())))),())=some (.inr ((),())):=by
     refine cp ?_
     simp only[zc,d1,cond_false]
    exact⟨-1,by rw[this];rfl,rfl⟩
   |cons q r ih=>
    intro k hr hk;obtain⟨c1,c2,c3⟩:=drop_cons hr;have hw:au k:=by unfold au;omega
    have az:=hv q (List.mem_of_getElem? c1);have hf:=agA (((n.name,(n.kind,(n.aW,()))),(q.name,(q.aW,()))),()) hn1 axQ az.1;have step:zc ((ps,(((n.name,(n.kind,(n.aW,()))),()),((ps.length:Int),((k:Int),())))),())=some (bif lE n q.name q.aW then .inr (.inl (((k:Int),()),())) else .inl ((ps,(((n.name,(n.kind,(n.aW,()))),()),((ps.length:Int),(((k+1:Nat):Int),())))),())):=by
     simp only[zc,cf c3,cond_true,b5,c1,Option.bind_some,JX,hf,bX hw];cases lE n q.name q.aW<;>rfl
    rw[List.any_cons];cases aci:lE n q.name q.aW with
    |true=>
     rw[aci,cond_true] at step;exact⟨k,by rw[show sC _=_ from cp step];rfl,by simp⟩
    |false=>
     rw[aci,cond_false] at step;obtain⟨z,h1,h2⟩:=ih (k+1) c2 c3;exact⟨z,by rw[show sC _=_ from dM step];exact h1,by rw[h2];rfl⟩
  obtain⟨z,h1,h2⟩:=key ps 0 rfl (Nat.zero_le _);have h3:Cp ((ps,(((n.name,(n.kind,(n.aW,()))),()),())),())=some ((z,()),()):=by
   simp only[Cp];exact h1
  simp only[Cq,h3,Option.bind_some,h2,jT]
 have inner:∀(i:Nat) (p:aG),ps[i]? =some p->FX ((ps,(ps,((ps.length:Int),((i:Int),(p.bi,((p.bi.length:Int),((0:Int),()))))))),())=some (bif p.bi.all (jT ps) then .inr ((ps,(ps,((ps.length:Int),((i:Int),())))),()) else .inl ((false,()),())):=by
  intro i p hp;have uo:=List.mem_of_getElem? hp;have D6:p.bi.length<=2097152:=(hb.2 p uo).2.2.1.1;have:=fX zg p.bi (fun k=>((ps,(ps,((ps.length:Int),((i:Int),(p.bi,((p.bi.length:Int),((k:Int),()))))))),())) (fun _ n=>jT ps n) (.inl ((false,()),())) (.inr ((ps,(ps,((ps.length:Int),((i:Int),())))),())) (fun k n hn=>?_) ?_
  ·have:=this;rw[gT] at this;exact this
  ·have hk:=cU hn;have hw:au k:=by unfold au;omega
   have k1:=List.mem_of_getElem? hn;have hc:=hcon n ((hb.2 p uo).2.2.1.2 n k1).1 ((hv p uo).2 n k1);simp only[zg,cf hk,cond_true,b5,hn,Option.bind_some,hc,bX hw];cases jT ps n<;>rfl
  ·simp only[zg,dx,cond_false]
 have key:IF ((ps,(ps,((ps.length:Int),((0:Int),())))),())=some (bif allI (fun _ p=>p.bi.all (jT ps)) 0 ps then .inr ((),()) else .inl ((false,()),())):=by
  refine fX Bm ps (fun i=>((ps,(ps,((ps.length:Int),((i:Int),())))),())) _ _ _ (fun i x hx=>?_) ?_
  ·have hi:=cU hx;have hw:au i:=by unfold au;omega
   simp only[Bm,cf hi,cond_true,b5,hx,inner i x hx,Option.bind_some];cases x.bi.all (jT ps)
   ·rfl
   ·simp only[cond_true,bX hw]
  ·simp only[Bm,dx,cond_false]
 rw[gT] at key;simp only[f131,key,Option.bind_some];cases List.all ps (fun p=>p.bi.all (jT ps))<;>rfl
theorem ajm:∀ps:List aG,(∀i y,ps[i+1]? =some y->nk ps i y=true)->ps.Pairwise fun p q=>Op.bytesLess p.name q.name=true:=by
 intro ps;induction ps with
 |nil=>intro _;exact List.Pairwise.nil
 |cons x r ih=>
  intro h;have hr:=ih (fun i y hy=>by
   have:=h (i+1) y (by simpa using hy)
   unfold nk at this ⊢;simpa using this)
  refine List.pairwise_cons.2 ⟨fun y hy=>?_,hr⟩
  cases r with
  |nil=>cases hy
  |cons z r=>
   have hz:Op.bytesLess x.name z.name=true:=by
    have:=h 0 z rfl;unfold nk at this;simpa using this
   rcases List.mem_cons.1 hy with rfl|hy
   ·exact hz
   ·exact vy _ _ _ hz ((List.pairwise_cons.1 hr).1 y hy)
theorem anN{ps:List aG}(h:kU ps=true):ps.Pairwise fun p q=>Op.bytesLess p.name q.name=true:=by
 refine ajm ps (fun i y hy=>?_)
 have:=z8 ps.tail 0 h i y (by rw[List.getElem?_tail];exact hy)
 rwa[Nat.zero_add] at this
theorem af0:∀(ps:List aG) (n:bx),(∀p,p∈ps->ei p.aW=true)->dD n=true->ps.Pairwise (fun p q=>Op.bytesLess p.name q.name=true)->jT ps n=iG ps n:=by
 intro ps n;induction ps with
 |nil=>intro _ _ _;rfl
 |cons q r ih=>
  intro hv hn hp;have D5:=List.pairwise_cons.1 hp;have ih:=ih (fun p h=>hv p (List.mem_cons_of_mem _ h)) hn D5.2
  unfold jT iG at ih ⊢;rw[List.any_cons,List.find?_cons];cases az:(q.name==n.name) with
  |true=>
   have hno:r.any (fun q=>lE n q.name q.aW)=false:=by
    rw[List.any_eq_false];intro p axJ;have h1:=D5.1 p axJ;rw[eq_of_beq az] at h1;have:(p.name==n.name)=false:=by
     cases h:(p.name==n.name) with
     |false=>rfl
     |true=>rw[eq_of_beq h,wm] at h1;cases h1
    unfold lE;rw[this];simp
   rw[hno];unfold lE;rw[hv q List.mem_cons_self,hn,az];simp
  |false=>
   have:lE n q.name q.aW=false:=by unfold lE;rw[az];simp
   rw[this,Bool.false_or];exact ih
def ej(ps:List aG):Bool:=ps.all cj&&kU ps&&decide (ps.length<=5)&&ps.all (fun p=>p.bi.all (iG ps))&&(fy [] ps).isSome
def jY(ps:List aG):Int:=bif ps.all cj&&kU ps then(bif decide (ps.length<=5) then(bif ps.all (fun p=>p.bi.all (iG ps)) then(bif(fy [] ps).isSome then 0 else 5) else 4) else 6) else 1
theorem afO(ps:List aG):ej ps=(jY ps==0):=by
 unfold ej jY;cases ps.all cj<;>cases kU ps<;>cases decide (ps.length<=5)<;>cases ps.all (fun p=>p.bi.all (iG ps))<;>cases (fy [] ps).isSome<;>rfl
theorem aht{aJ:Type}(ok:Nat->aJ->Bool):∀(xs:List aJ) (j:Nat),allI ok (j+1) xs=allI (fun i=>ok (i+1)) j xs:=by
 intro xs;induction xs with
 |nil=>intro j;rfl
 |cons x r ih=>intro j;simp only[allI,ih]
def ug(ps:List aG)(i:Nat)(x:aG):Bool:=cj x&&(i==0||nk ps (i-1) x)
theorem Tq(ps:List aG):allI (ug ps) 0 ps=(ps.all cj&&kU ps):=by
 unfold ug;rw[Hi,gT];congr 1
 unfold kU;cases ps with
 |nil=>rfl
 |cons x r=>
  simp only[allI,beq_self_eq_true,Bool.true_or,Bool.true_and,List.tail_cons];rw[aht];refine PV r 0 (fun i y _ _=>?_)
  have:(i+1==0)=false:=rfl;rw[this,Bool.false_or,Nat.add_sub_cancel]
theorem vp(a)(hb:fb a.1.1.1)(hv:jI a.1.1.1):f30 a=some ((ej a.1.1.1,()),()):=by
 obtain⟨⟨⟨ps,u⟩,bV⟩,nB⟩:=a;have hl:ps.length<=2097152:=hb.1;have key:B4 ((ps,((0:Int),())),())=some (bif allI (ug ps) 0 ps then .inr ((ps,()),()) else .inl (((1:Int),()),())):=by
  refine fX qY ps (fun i=>((ps,((i:Int),())),())) _ _ _ (fun i x hx=>?_) ?_
  ·have hi:=cU hx;have hw:au i:=by unfold au;omega
   have p4:=hb.2 x (List.mem_of_getElem? hx);simp only[qY,cf hi,cond_true,A6,b5,hx,Option.bind_some];rw[vq _ p4];simp only[Option.bind_some,ug,Dl];cases cj x with
   |false=>rfl
   |true=>
    simp only[Bool.not_true,cond_false,Bool.true_and,nk];cases i with
    |zero=>simp only[beq_self_eq_true,Bool.not_true,cond_false,Option.bind_some,Bool.true_or,cond_true,bX hw]
    |succ i=>
     have h0:(i+1==0)=false:=rfl;have jB:i<ps.length:=by omega
     obtain⟨q,az⟩:∃q,ps[i]? =some q:=⟨ps[i],List.getElem?_eq_getElem jB⟩;simp only[h0,Bool.not_false,cond_true,vd (i:=i) (by unfold au;omega),b5,az,hx,Option.bind_some,Bool.false_or,Nat.add_sub_cancel]
     cases Op.bytesLess q.name x.name with
     |false=>rfl
     |true=>simp only[Bool.not_true,cond_false,cond_true,bX hw]
  ·simp only[qY,dx,cond_false]
 rw[Tq] at key;have bl:decide ((ps.length:Int)>5)=!decide (ps.length<=5):=by by_cases h:ps.length<=5<;>simp only[h,decide_true,decide_false,Bool.not_true,Bool.not_false,decide_eq_true_eq,decide_eq_false_iff_not]<;>omega
 simp only[f30,f60,key,Option.bind_some,ej];cases dX:(ps.all cj&&kU ps) with
 |false=>rfl
 |true=>
  have hk:ps.all cj=true:=by simp only[Bool.and_eq_true] at dX;exact dX.1
  obtain⟨out,aq⟩:=Rf ((ps,()),()) hb hk;have hn:=P0 ((ps,()),()) hb hv;simp only[cond_true,Option.bind_some,aq,bl,Bool.true_and];cases decide (ps.length<=5) with
  |false=>rfl
  |true=>
   simp only[Bool.not_true,cond_false,hn,Option.bind_some,Bool.true_and];cases ps.all (fun p=>p.bi.all (iG ps))<;>cases (fy [] ps).isSome<;>rfl
theorem agq(a)(hb:fb a.1.1)(hv:jI a.1.1):f81 a=some ((jY a.1.1,()),()):=by
 obtain⟨⟨ps,u⟩,bV⟩:=a;have hl:ps.length<=2097152:=hb.1;have e1:=ahM ((ps,((),())),()) hb;have e2:=aev ((ps,()),()) hl;have br:=aeP ((ps,()),()) hb hv;have bl:decide ((ps.length:Int)>5)=!decide (ps.length<=5):=by by_cases h:ps.length<=5<;>simp only[h,decide_true,decide_false,Bool.not_true,Bool.not_false,decide_eq_true_eq,decide_eq_false_iff_not]<;>omega
 have c0:tm (((ps,()),()),())=some (((bif ps.all cj&&kU ps then(0:Int) else 1),()),()):=by
  simp only[tm,F',e1,Bool.not_not,Option.bind_some];cases ps.all cj with
  |false=>rfl
  |true=>simp only[cond_true,e2,Option.bind_some,Bool.true_and];cases kU ps<;>rfl
 have c1:tl (((ps,()),()),())=some (((bif decide (ps.length<=5) then(0:Int) else 6),()),()):=by
  simp only[tl,bl];cases decide (ps.length<=5)<;>rfl
 have c2:tk (((ps,()),()),())=some (((bif ps.all (fun p=>p.bi.all (jT ps)) then(0:Int) else 4),()),()):=by
  simp only[tk,br,Option.bind_some];cases ps.all (fun p=>p.bi.all (jT ps))<;>rfl
 have c3:ps.all cj=true->tj (((ps,()),()),())=some (((bif(fy [] ps).isSome then(0:Int) else 5),()),()):=by
  intro hk;obtain⟨out,aq⟩:=afA ((ps,()),()) hb hk;simp only[tj,aq,Option.bind_some];cases (fy [] ps).isSome<;>rfl
 have z:∀n:Int,((n:Int) !=0)=!(n==0):=fun n=>rfl
 simp only[f81,Kj,qZ,c0,c1,c2,q4,Option.bind_some,jY];cases dX:(ps.all cj&&kU ps) with
 |false=>rfl
 |true=>
  simp only[Bool.and_eq_true] at dX;have ape:ps.all (fun p=>p.bi.all (jT ps))=ps.all (fun p=>p.bi.all (iG ps)):=by
   rw[Bool.eq_iff_iff];simp only[List.all_eq_true];have hvs:∀p,p∈ps->ei p.aW=true:=fun p hp=>by
    have:=List.all_eq_true.1 dX.1 p hp;unfold cj at this;simp only[Bool.and_eq_true] at this;exact this.1.1.2
   have hns:∀p,p∈ps->∀n,n∈p.bi->jT ps n=iG ps n:=fun p hp n hn=>by
    have:=List.all_eq_true.1 dX.1 p hp;unfold cj qP at this;simp only[Bool.and_eq_true] at this;exact af0 ps n hvs (List.all_eq_true.1 this.1.2.1.1 n hn) (anN dX.2)
   constructor
   ·intro h p hp n hn;rw[<-hns p hp n hn];exact h p hp n hn
   ·intro h p hp n hn;rw[hns p hp n hn];exact h p hp n hn
  rw[ape,c3 dX.1];cases decide (ps.length<=5)<;>cases ps.all (fun p=>p.bi.all (iG ps))<;>cases (fy [] ps).isSome<;>rfl
theorem yQ(a)(hb:fb a.1.1.1)(hv:jI a.1.1.1):f43 a=some ((ej a.1.1.1,()),()):=by
 obtain⟨⟨⟨ps,u⟩,bV⟩,nB⟩:=a;have e:=agq ((ps,()),()) hb hv;simp only[f43,e,Option.bind_some,afO]
abbrev i217:Shape:=⟨[(0,.am (.d (.int .u32))),ag 1],[],17⟩
abbrev XU:Shape:=⟨[(4,.am (.d (.int .u32)))],[],17⟩
noncomputable def f217(a:i217.J):Option XU.J:=
(lL .u32 a.1.1 (eF .u64 (IntKind.u64.wrap a.1.2.1) (31:Int))).bind fun b=>
(fk .u32 a.1.1 (IntKind.u64.wrap ((32:Int)-(eF .u64 (IntKind.u64.wrap a.1.2.1) (31:Int))))).bind fun c=>
 some (((h6 .u32 b c),()),())
noncomputable def _b:aD:=aH ad Tryz.f217 i217 XU [] f217
theorem arT:aB O 217 _b:=aK g0 Tryz.func217 (by kernel_rfl) ae (fun y=>by kernel_rfl) fun a=>by kernel_rfl
noncomputable abbrev auG:a_:=[(217,_b)]
theorem avK:aR O (aX ad auG):=aV ⟨arT,⟨⟩⟩
abbrev i171:Shape:=⟨[(0,.am (.d (.int .u32))),ag 1],[],9⟩
abbrev Yp:Shape:=⟨[(4,.am (.d (.int .u32)))],[],9⟩
noncomputable def f171(a:i171.J):Option Yp.J:=
(f217 ((a.1.1,(IntKind.i64.wrap (0-a.1.2.1)),()),())).bind fun b=>
 some ((b.1.1,()),())
noncomputable def _A:aD:=aH ad Tryz.f171 i171 Yp [] f171
theorem z171:aB O 171 _A:=aK avK Tryz.func171 (by kernel_rfl) ae (fun y=>by kernel_rfl) fun a=>by kernel_rfl
abbrev i278:Shape:=⟨[(0,.am (.d (.int .u32))),ag 1],[],13⟩
abbrev Xv:Shape:=⟨[(4,.am (.d (.int .u32)))],[],13⟩
noncomputable def f278(a:i278.J):Option Xv.J:=
(fk .u32 a.1.1 a.1.2.1).bind fun b=>
(lL .u32 a.1.1 (IntKind.i64.wrap ((32:Int)-a.1.2.1))).bind fun c=>
 some (((h6 .u32 b c),()),())
noncomputable def Lk:aD:=aH ad Tryz.f278 i278 Xv [] f278
theorem W2:aB O 278 Lk:=aK g0 Tryz.func278 (by kernel_rfl) ae (fun y=>by kernel_rfl) fun a=>by kernel_rfl
noncomputable abbrev at0:a_:=[(278,Lk)]
theorem LH:aR O (aX ad at0):=aV ⟨W2,⟨⟩⟩
abbrev Ai:Shape:=⟨[aL 0 .u8,ba 3 3000192,ag 4],[a' 3000192 .u32 3 0],100⟩
abbrev Hw:List aP:=[(.exit 0,⟨[ba 3 3000192],[a' 3000192 .u32 3 0],100⟩)]
noncomputable def IT(y:Ai.J):bG Ai Hw:=
 bif(decide (y.1.2.2.1<(16:Int))) then
(aO y.1.1 (IntKind.i64.wrap ((4:Int)*y.1.2.2.1))).bind fun a=>
(lL .u32 (IntKind.u32.wrap a) (24:Int)).bind fun b=>
(aO y.1.1 (IntKind.i64.wrap ((IntKind.i64.wrap ((4:Int)*y.1.2.2.1))+(1:Int)))).bind fun c=>
(lL .u32 (IntKind.u32.wrap c) (16:Int)).bind fun d=>
(aO y.1.1 (IntKind.i64.wrap ((IntKind.i64.wrap ((4:Int)*y.1.2.2.1))+(2:Int)))).bind fun e=>
(lL .u32 (IntKind.u32.wrap e) (8:Int)).bind fun f=>
(aO y.1.1 (IntKind.i64.wrap ((IntKind.i64.wrap ((4:Int)*y.1.2.2.1))+(3:Int)))).bind fun g=>
(b9 4 y.2.1 ([(h6 .u32 (h6 .u32 (h6 .u32 b d) f) (IntKind.u32.wrap g))]:List Int)).bind fun h=>
 some (.inl ((y.1.1,(),(IntKind.i64.wrap (y.1.2.2.1+(1:Int))),()),h,()))
else
 some (.inr (((),()),y.2.1,()))
noncomputable def Im:Ai.J->Option (aC Hw):=bu IT
theorem amc:aT O (an (codeOf Tryz.f276) 1 58) (aU Ai Hw Im):=bI LH (by kernel_rfl) ae fun y=>by kernel_rfl
abbrev zv:Shape:=⟨[ba 3 3000192,ag 5],[a' 3000192 .u32 3 0],100⟩
abbrev Gr:List aP:=[(.exit 2,⟨[ba 3 3000192],[a' 3000192 .u32 3 0],100⟩)]
noncomputable def G_(y:zv.J):bG zv Gr:=
 bif(decide (y.1.2.1<(64:Int))) then
(be y.2.1.length (IntKind.i64.wrap (y.1.2.1-(15:Int)))).bind fun a=>
(y.2.1[a]?).bind fun b=>
(be y.2.1.length (IntKind.i64.wrap (y.1.2.1-(2:Int)))).bind fun c=>
(y.2.1[c]?).bind fun d=>
(f278 ((b,(7:Int),()),())).bind fun e=>
(f278 ((b,(18:Int),()),())).bind fun f=>
(fk .u32 b (3:Int)).bind fun g=>
(f278 ((d,(17:Int),()),())).bind fun h=>
(f278 ((d,(19:Int),()),())).bind fun i=>
(fk .u32 d (10:Int)).bind fun j=>
(be y.2.1.length (IntKind.i64.wrap (y.1.2.1-(16:Int)))).bind fun k=>
(y.2.1[k]?).bind fun l=>
(be y.2.1.length (IntKind.i64.wrap (y.1.2.1-(7:Int)))).bind fun m=>
(y.2.1[m]?).bind fun n=>
(b9 4 y.2.1 ([(IntKind.u32.wrap ((IntKind.u32.wrap ((IntKind.u32.wrap (l+(dl .u32 (dl .u32 e.1.1 f.1.1) g)))+n))+(dl .u32 (dl .u32 h.1.1 i.1.1) j)))]:List Int)).bind fun D=>
 some (.inl (((),(IntKind.i64.wrap (y.1.2.1+(1:Int))),()),D,()))
else
 some (.inr (((),()),y.2.1,()))
noncomputable def GR:zv.J->Option (aC Gr):=bu G_
theorem akk:aT O (an (codeOf Tryz.f276) 1 122) (aU zv Gr GR):=bI LH (by kernel_rfl) ae fun y=>by kernel_rfl
abbrev i276:Shape:=⟨[aL 0 .u8],[],100⟩
abbrev Xx:Shape:=⟨[ba 2 3000128],[a' 3000128 .u32 2 0],100⟩
noncomputable def f276(a:i276.J):Option Xx.J:=
(j4 4 (0:Int) (64:Int) (0:Int)).bind fun b=>
(Im ((a.1.1,(),(0:Int),()),b,())).bind fun c=>
(GR (((),(16:Int),()),c.2.1,())).bind fun d=>
 some (((),()),d.2.1,())
noncomputable def ZS:aD:=aH ad Tryz.f276 i276 Xx [] f276
theorem arD:aB O 276 ZS:=aK LH Tryz.func276 (by kernel_rfl) (a8 amc (a8 akk ae)) (fun y=>by kernel_rfl) fun a=>by kernel_rfl
end Go.Proofs
